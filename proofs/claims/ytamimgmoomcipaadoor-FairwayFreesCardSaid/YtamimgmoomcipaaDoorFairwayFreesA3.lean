/- Parts of the proof of FairwayFrees: the engine, contracts of functions, plain lemmas. -/
import Derived.Test.YtamimgmoomcipaaDoorFairwayFreesA2
import Derived.ArgAppend
import Derived.Below
import Derived.Carry
import Derived.ChangeKeysEq
import Derived.ControlIn
import Derived.Deep.DeepHandedRow
import Derived.Deep.Draws
import Derived.Deep.Quiet
import Derived.Deep.Slices
import Derived.KernelRfl
import Derived.Laws.AppendOwn
import Derived.Laws.Cells
import Derived.Laws.CopyRow
import Derived.Laws.IdiomRangeMap
import Derived.Laws.Rows
import Derived.MapKept
import Derived.Maps.AppendAt
import Derived.OpenShut
import Derived.OrdersHeld
import Derived.OrdersIn
import Derived.ProofKit
import Derived.RangeFuncLeaves
import Derived.RangeFuncNested
import Derived.RangeFuncOwn
import Derived.SizedLaws
import Derived.Test.YtamimgmoomcipaaDoorProg
import Derived.Test.YtamimgmoomcipaaDoorRows
import Derived.WalkKit
import Derived.WideKeyRuns
namespace Go.Proofs.YtamimgmoomcipaaDoor.Fw
open Go Go.RowKit Go.Proofs.YtamimgmoomcipaaDoor.Eng 
set_option linter.unusedVariables false
set_option linter.unusedSimpArgs false
def frmW (s : List Int) : Nat := if s = [] then 0 else (s.getD (s.length - 1) 0 + 1).toNat
def chooseW (b : Book) : Nat → List Int → List Int × Bool
  | 0, s => (s, isTrueF b s)
  | r + 1, s => match (List.range' (frmW s) (b.sights.length - frmW s)).find? fun q : Nat => (chooseW b r (s ++ [(q : Int)])).2 with
    | some q => ((chooseW b r (s ++ [(q : Int)])).1, true)
    | none => ([], false)
def Somes (b : Book) (s : List Int) : Prop := s.length ≤ 5 ∧ ∀ x ∈ s, 0 ≤ x ∧ x < b.sights.length
theorem frmW_eq {b : Book} {s : List Int} (hv : Valid b) (hs : Somes b s) : (bif decide ((s.length : Int) > 0) then IntKind.i64.wrap (s.getD (IntKind.i64.wrap ((s.length : Int) - 1)).toNat 0 + 1) else 0) = (frmW s : Int) := by
  have h1 := hs.1
  have h2 := hv.nsights
  unfold frmW
  by_cases h : s = []
  · rw [if_pos h, h]; rfl
  · have h0 : 0 < s.length := List.length_pos_iff.2 h
    rw [if_neg h, decide_eq_true (by omega), cond_true, wrapI (x := (s.length : Int) - 1) (by omega) (by omega)]
    have e : ((s.length : Int) - 1).toNat = s.length - 1 := by omega
    rw [e]
    have hm := hs.2 _ (getD_mem (z := 0) (show s.length - 1 < s.length by omega))
    rw [wrapI (by omega) (by omega)]
    omega
theorem frmW_le {b : Book} {s : List Int} (hv : Valid b) (hs : Somes b s) : frmW s ≤ b.sights.length := by
  unfold frmW
  by_cases h : s = []
  · rw [if_pos h]; omega
  · rw [if_neg h]
    have hm := hs.2 _ (getD_mem (z := 0) (show s.length - 1 < s.length by have : 0 < s.length := List.length_pos_iff.2 h; omega))
    omega
theorem choose_none {b : Book} {r : Nat} {s : List Int} (h : ∀ q, frmW s ≤ q → q < b.sights.length → (chooseW b r (s ++ [(q : Int)])).2 = false) : chooseW b (r + 1) s = ([], false) := by
  simp only [chooseW]
  rw [List.find?_eq_none.2 fun q hq => by
    obtain ⟨i, hi, rfl⟩ := List.mem_range'.1 hq
    rw [h _ (by omega) (by omega)]; decide]
theorem choose_some {b : Book} {r : Nat} {s : List Int} {q : Nat} (h : ∀ p, frmW s ≤ p → p < q → (chooseW b r (s ++ [(p : Int)])).2 = false) (h1 : frmW s ≤ q) (h2 : q < b.sights.length) (h3 : (chooseW b r (s ++ [(q : Int)])).2 = true) : chooseW b (r + 1) s = ((chooseW b r (s ++ [(q : Int)])).1, true) := by
  simp only [chooseW]
  have : (List.range' (frmW s) (b.sights.length - frmW s)).find? (fun q : Nat => (chooseW b r (s ++ [(q : Int)])).2) = some q := by
    rw [List.find?_eq_some_iff_append]
    refine ⟨h3, List.range' (frmW s) (q - frmW s), List.range' (q + 1) (b.sights.length - q - 1), ?_, fun p hp => ?_⟩
    · have e1 : b.sights.length - frmW s = (q - frmW s) + (1 + (b.sights.length - q - 1)) := by omega
      rw [e1, ← List.range'_append, ← List.range'_append]
      simp only [Nat.mul_one, Nat.one_mul]
      rw [show frmW s + (q - frmW s) = q by omega]
      rfl
    · obtain ⟨i, hi, rfl⟩ := List.mem_range'.1 hp
      rw [h _ (by omega) (by omega)]; rfl
  rw [this]
theorem somes_snoc {b : Book} {s : List Int} {q : Nat} (hs : Somes b s) (hq : q < b.sights.length) (hl : s.length < 5) : Somes b (s ++ [(q : Int)]) := by
  refine ⟨by simp; omega, fun x hx => ?_⟩
  rcases List.mem_append.1 hx with hx | hx
  · exact hs.2 x hx
  · rw [List.mem_singleton.1 hx]; omega
theorem choose_calls (b : Book) (hv : Valid b) (sv gv : Value) (gx gc : Nat) : ∀ (r : Nat) (s : List Int) (tv : Value) (w : World), Somes b s → s.length + r ≤ 5 → BookAt w sv gv b → Reads w tv 1 s encI 0 → (fun w => w.heap[gx]? = some (.cells #[sv, iv b.hear.lo, iv b.hear.hi, iv b.br, iv b.cr, iv b.sl, gv] 27 (0, 0))) w → (fun w => w.heap[gc]? = some (.cells #[.func (.func 75) #[] #[.pointer (some ⟨gx, 0, none⟩), .pointer (some ⟨gc, 0, none⟩)]] 96 (0, 0))) w →
    Calls Tryd.prog 75 #[tv, iv (s.length + r : Nat), .pointer (some ⟨gx, 0, none⟩), .pointer (some ⟨gc, 0, none⟩)] w fun e w' => ∃ v, e = .returned (.tuple #[v, .bool (chooseW b r s).2]) ∧ Below w.heap.size w w' ∧ Reads w' v 1 (chooseW b r s).1 encI 0 ∧ (∀ g, vblk v = some g → vblk tv = some g ∨ (w.heap.size ≤ g ∧ g < w'.heap.size)) := by
  intro r
  induction r with
  | zero =>
    intro s tv w hs hsr hb rd hx hc
    have hsl := hs.1
    have hbg := hv.nsights
    refine calls_of_WP (cx := cx0 w (vn [sv, gv, tv]) 3) (n := vn [sv, gv, tv]) (vs := [.s (.ref 2), .s (.int .i64 ((s.length + 0 : Nat) : Int)), .s (.v (.pointer (some ⟨gx, 0, none⟩))), .s (.v (.pointer (some ⟨gc, 0, none⟩)))]) (hp := [(0, .sl .ro 65 5 b.ships encShip zShip), (1, .sl .ro 70 4 b.sights encSight zSight), (2, .sl .ro 3 1 s encI 0), (3, .pf (fun w => w.heap[gx]? = some (.cells #[sv, iv b.hear.lo, iv b.hear.hi, iv b.br, iv b.cr, iv b.sl, gv] 27 (0, 0))) (· = gx)), (4, .pf (fun w => w.heap[gc]? = some (.cells #[.func (.func 75) #[] #[.pointer (some ⟨gx, 0, none⟩), .pointer (some ⟨gc, 0, none⟩)]] 96 (0, 0))) (· = gc))]) (nx := 5) tt_ok Tryd.func75 rfl rfl rfl (by kernel_rfl) (HSat_args (vn_one (by simp [hb.ships.one, hb.sights.one, rd.one])) (by decide) ⟨⟨⟨fun _ => rfl, by decide, hb.ships⟩, (Nat.le_of_ble_eq_true rfl)⟩, ⟨⟨fun _ => rfl, by decide, hb.sights⟩, (Nat.le_of_ble_eq_true rfl)⟩, ⟨⟨fun _ => rfl, by decide, rd⟩, (Nat.le_of_ble_eq_true rfl)⟩, ⟨⟨hx, fun w1 w2 h1 hw => (hw gx rfl).trans h1, fun g hg => by cases hg; exact (Array.getElem?_eq_some_iff.1 hx).1⟩, (Nat.le_of_ble_eq_true rfl)⟩, ⟨⟨hc, fun w1 w2 h1 hw => (hw gc rfl).trans h1, fun g hg => by cases hg; exact (Array.getElem?_eq_some_iff.1 hc).1⟩, (Nat.le_of_ble_eq_true rfl)⟩, trivial⟩) (vsOk (by kernel_rfl)) ?_
    have hl2 := Reads.len rd
    refine WP_seq (WP_region (WPO_all tt_ok (by kernel_rfl) ?_))
    refine WP_seq (WP_region (WPO_all tt_ok (by kernel_rfl) ?_))
    refine WP_seq (WP_seq (WP_region (WPO_all tt_ok (by kernel_rfl) ?_)))
    refine WP_cond ((s.length : Int) == ((s.length + 0 : Nat) : Int)) (by kernel_rfl) (fun hc1 => ?_) (fun h => by rw [(show ((s.length : Int) == ((s.length + 0 : Nat) : Int)) = true from by simp)] at h; cases h)
    refine WP_seq (WP_region (WPO_run tt_ok 1 (by kernel_rfl) ?_))
    refine LDGo tt_ok 27 gx 0 (some 19) [.ref 0, .int .i64 b.hear.lo, .int .i64 b.hear.hi, .int .i64 b.br, .int .i64 b.cr, .int .i64 b.sl, .ref 1] 27 (.g [.ref 0, .int .i64 b.hear.lo, .int .i64 b.hear.hi, .int .i64 b.br, .int .i64 b.cr, .int .i64 b.sl, .ref 1]) (by kernel_rfl) (by kernel_rfl) (by kernel_rfl) (fun nV w h => (by have e0 : nV 0 = sv := h.ini 0 (by show 0 < 3; decide); have e1 : nV 1 = gv := h.ini 1 (by show 1 < 3; decide); have h3 := (h.ents (3, .pf (fun w => w.heap[gx]? = some (.cells #[sv, iv b.hear.lo, iv b.hear.hi, iv b.br, iv b.cr, iv b.sl, gv] 27 (0, 0))) (· = gx)) (fnd_mem (by kernel_rfl))).1; rw [← e0, ← e1] at h3; exact h3)) (by kernel_rfl) ?_
    refine WPO_run tt_ok 1 (by kernel_rfl) ?_
    refine CALLMAPS 73 [.g [.ref 0, .int .i64 b.hear.lo, .int .i64 b.hear.hi, .int .i64 b.br, .int .i64 b.cr, .int .i64 b.sl, .ref 1], .s (.ref 2)] (.g [.ref 0, .int .i64 b.hear.lo, .int .i64 b.hear.hi, .int .i64 b.br, .int .i64 b.cr, .int .i64 b.sl, .ref 1, .ref 5]) 100 encM (CanF b s) 5 (by kernel_rfl) (by kernel_rfl) (by kernel_rfl) (goes_of (by kernel_rfl)) (fun _ => (by kernel_rfl)) (fun _ => (by kernel_rfl)) (fun _ => rfl) (fun m w1 w2 h1 h2 => CanF.stab m w1 w2 h1 h2) (fun m w h1 => CanF.maps m w h1) (fun nV w h => (opened_calls (nV 0) (nV 1) (nV 2) b s w ⟨h.reads (id := 0) (kd := .ro) (e := 65) (by kernel_rfl), h.reads (id := 1) (kd := .ro) (e := 70) (by kernel_rfl)⟩ (h.reads (id := 2) (kd := .ro) (e := 3) (by kernel_rfl)) hv).mono fun e w' ⟨cv, m, h1, h2, h3, h4⟩ => ⟨cv, m, h1, h2, h4, h3.len, h3.at'⟩) (fun mp52 => ?_)
    refine CALL 74 [.g [.ref 0, .int .i64 b.hear.lo, .int .i64 b.hear.hi, .int .i64 b.br, .int .i64 b.cr, .int .i64 b.sl, .ref 1, .ref 5]] (.s (.bool (isTrueF b s))) [] (by kernel_rfl) (goes_of (by kernel_rfl)) (by kernel_rfl) (by kernel_rfl) (fun _ nV w h => isTrue_calls (nV 0) (nV 1) (nV 5) b s mp52 w ⟨h.reads (id := 0) (kd := .ro) (e := 65) (by kernel_rfl), h.reads (id := 1) (kd := .ro) (e := 70) (by kernel_rfl)⟩ (HSat_toK 5 6 .own h (by kernel_rfl) (by kernel_rfl))) ?_
    refine WPO_all tt_ok (by kernel_rfl) ?_
    refine WP_ret ?_
    exact ⟨.t [(false, [.ref 2]), (false, [.bool (isTrueF b s)])], by kernel_rfl, fun nV w' h => ⟨nV 2, by rfl, h.bel, h.reads (id := 2) (kd := .ro) (e := 3) (by kernel_rfl), fun g hg => .inl (by have e2 : nV 2 = tv := h.ini 2 (by show 2 < 3; decide); rw [← e2]; exact hg)⟩⟩
  | succ r ih =>
    intro s tv w hs hsr hb rd hx hc
    have hsl := hs.1
    have hbg := hv.nsights
    have hfl := frmW_le hv hs
    refine calls_of_WP (cx := cx0 w (vn [sv, gv, tv]) 3) (n := vn [sv, gv, tv]) (vs := [.s (.ref 2), .s (.int .i64 ((s.length + (r + 1) : Nat) : Int)), .s (.v (.pointer (some ⟨gx, 0, none⟩))), .s (.v (.pointer (some ⟨gc, 0, none⟩)))]) (hp := [(0, .sl .ro 65 5 b.ships encShip zShip), (1, .sl .ro 70 4 b.sights encSight zSight), (2, .sl .ro 3 1 s encI 0), (3, .pf (fun w => w.heap[gx]? = some (.cells #[sv, iv b.hear.lo, iv b.hear.hi, iv b.br, iv b.cr, iv b.sl, gv] 27 (0, 0))) (· = gx)), (4, .pf (fun w => w.heap[gc]? = some (.cells #[.func (.func 75) #[] #[.pointer (some ⟨gx, 0, none⟩), .pointer (some ⟨gc, 0, none⟩)]] 96 (0, 0))) (· = gc))]) (nx := 5) tt_ok Tryd.func75 rfl rfl rfl (by kernel_rfl) (HSat_args (vn_one (by simp [hb.ships.one, hb.sights.one, rd.one])) (by decide) ⟨⟨⟨fun _ => rfl, by decide, hb.ships⟩, (Nat.le_of_ble_eq_true rfl)⟩, ⟨⟨fun _ => rfl, by decide, hb.sights⟩, (Nat.le_of_ble_eq_true rfl)⟩, ⟨⟨fun _ => rfl, by decide, rd⟩, (Nat.le_of_ble_eq_true rfl)⟩, ⟨⟨hx, fun w1 w2 h1 hw => (hw gx rfl).trans h1, fun g hg => by cases hg; exact (Array.getElem?_eq_some_iff.1 hx).1⟩, (Nat.le_of_ble_eq_true rfl)⟩, ⟨⟨hc, fun w1 w2 h1 hw => (hw gc rfl).trans h1, fun g hg => by cases hg; exact (Array.getElem?_eq_some_iff.1 hc).1⟩, (Nat.le_of_ble_eq_true rfl)⟩, trivial⟩) (vsOk (by kernel_rfl)) ?_
    have hl2 := Reads.len rd
    refine WP_seq (WP_region (WPO_all tt_ok (by kernel_rfl) ?_))
    refine WP_seq (WP_region (WPO_all tt_ok (by kernel_rfl) ?_))
    refine WP_seq (WP_seq (WP_region (WPO_all tt_ok (by kernel_rfl) ?_)))
    refine WP_cond ((s.length : Int) == ((s.length + (r + 1) : Nat) : Int)) (by kernel_rfl) (fun h => by rw [(show ((s.length : Int) == ((s.length + (r + 1) : Nat) : Int)) = false from by simp; omega)] at h; cases h) (fun hc101 => ?_)
    refine WP_skip ?_
    refine WP_seq (WP_region (WPO_all tt_ok (by kernel_rfl) ?_))
    refine WP_seq (WP_seq (WP_region (WPO_all tt_ok (by kernel_rfl) ?_)))
    refine WP_join (decide ((s.length : Int) > 0)) (fun q => ⟨54, [(9, [], .s (.int .i64 (bif q then IntKind.i64.wrap ((s.getD (IntKind.i64.wrap ((s.length : Int) - 1)).toNat 0) + 1) else 0))), (8, [], .s (.int .i64 (s.length : Int))), (0, [], .s (.ref 2)), (1, [], .s (.int .i64 ((s.length + (r + 1) : Nat) : Int))), (2, [], .s (.v (.pointer (some ⟨gx, 0, none⟩)))), (3, [], .s (.v (.pointer (some ⟨gc, 0, none⟩))))], [(0, .sl .ro 65 5 b.ships encShip zShip), (1, .sl .ro 70 4 b.sights encSight zSight), (2, .sl .ro 3 1 s encI 0), (3, .pf (fun w => w.heap[gx]? = some (.cells #[sv, iv b.hear.lo, iv b.hear.hi, iv b.br, iv b.cr, iv b.sl, gv] 27 (0, 0))) (· = gx)), (4, .pf (fun w => w.heap[gc]? = some (.cells #[.func (.func 75) #[] #[.pointer (some ⟨gx, 0, none⟩), .pointer (some ⟨gc, 0, none⟩)]] 96 (0, 0))) (· = gc))], 5, []⟩) (by kernel_rfl) (fun hc103 => ?_) (fun hc103 => ?_) ?_
    · have hc103' := of_decide_eq_true hc103
      refine WP_region (WPO_run tt_ok 3 (by kernel_rfl) ?_)
      refine IX tt_ok (IntKind.i64.wrap ((s.length : Int) - 1)) s.length [] (by kernel_rfl) (fun hG => (by rw [wrapI (by omega) (by omega)]; constructor <;> omega)) ?_
      refine WPO_all tt_ok (by kernel_rfl) ?_
      exact Le_sel (ts := [9, 8, 0, 1, 2, 3]) (ids := [0, 1, 2, 3, 4]) (nx := 5) (by kernel_rfl)
    · have hc103' := of_decide_eq_false hc103
      refine WP_skip ?_
      exact Le_sel (ts := [9, 8, 0, 1, 2, 3]) (ids := [0, 1, 2, 3, 4]) (nx := 5) (by kernel_rfl)
    refine WP_seq (WP_seq (WP_region (WPO_all tt_ok (by kernel_rfl) ?_)))
    refine WP_block (WP_loop (σ := Int) (fun zz => ⟨54, [(10, [], .s (.int .i64 zz)), (8, [], .s (.int .i64 (s.length : Int))), (0, [], .s (.ref 2)), (1, [], .s (.int .i64 ((s.length + (r + 1) : Nat) : Int))), (2, [], .s (.v (.pointer (some ⟨gx, 0, none⟩)))), (3, [], .s (.v (.pointer (some ⟨gc, 0, none⟩))))], [(0, .sl .ro 65 5 b.ships encShip zShip), (1, .sl .ro 70 4 b.sights encSight zSight), (2, .sl .ro 3 1 s encI 0), (3, .pf (fun w => w.heap[gx]? = some (.cells #[sv, iv b.hear.lo, iv b.hear.hi, iv b.br, iv b.cr, iv b.sl, gv] 27 (0, 0))) (· = gx)), (4, .pf (fun w => w.heap[gc]? = some (.cells #[.func (.func 75) #[] #[.pointer (some ⟨gx, 0, none⟩), .pointer (some ⟨gc, 0, none⟩)]] 96 (0, 0))) (· = gc))], 5, []⟩) (fun zz => ∃ q : Nat, zz = q ∧ frmW s ≤ q ∧ q ≤ b.sights.length ∧ ∀ p, frmW s ≤ p → p < q → (chooseW b r (s ++ [(p : Int)])).2 = false) (fun zz => b.sights.length - zz.toNat) (bif (decide ((s.length : Int) > 0)) then IntKind.i64.wrap ((s.getD (IntKind.i64.wrap ((s.length : Int) - 1)).toNat 0) + 1) else 0) (⟨frmW s, frmW_eq hv hs, Nat.le_refl _, hfl, fun p h1 h2 => by omega⟩) (Le_sel (ts := [10, 8, 0, 1, 2, 3]) (ids := [0, 1, 2, 3, 4]) (nx := 5) (by kernel_rfl)) ?_)
    rintro n hinv
    obtain ⟨q, hn, hq1, hq2, hno⟩ := hinv
    subst hn
    refine WP_seq (WP_seq (WP_region (WPO_run tt_ok 2 (by kernel_rfl) ?_)))
    refine LDGo tt_ok 25 gx 6 (some 34) [.ref 0, .int .i64 b.hear.lo, .int .i64 b.hear.hi, .int .i64 b.br, .int .i64 b.cr, .int .i64 b.sl, .ref 1] 27 (.s (.ref 1)) (by kernel_rfl) (by kernel_rfl) (by kernel_rfl) (fun nV w h => (by have e0 : nV 0 = sv := h.ini 0 (by show 0 < 3; decide); have e1 : nV 1 = gv := h.ini 1 (by show 1 < 3; decide); have h3 := (h.ents (3, .pf (fun w => w.heap[gx]? = some (.cells #[sv, iv b.hear.lo, iv b.hear.hi, iv b.br, iv b.cr, iv b.sl, gv] 27 (0, 0))) (· = gx)) (fnd_mem (by kernel_rfl))).1; rw [← e0, ← e1] at h3; exact h3)) (by kernel_rfl) ?_
    refine WPO_all tt_ok (by kernel_rfl) ?_
    refine WP_cond (decide ((q : Int) < (b.sights.length : Int))) (by kernel_rfl) (fun hc105 => ?_) (fun hc105 => ?_)
    · have hc105' := of_decide_eq_true hc105
      replace hq2 : q < b.sights.length := by omega
      have hcut : cut s 0 (s.length : Int) = s := by simp [cut]
      have hcl : (cut s 0 (s.length : Int)).length = s.length := by rw [hcut]
      have ih0 : ∀ (tv1 : Value) (w : World), BookAt w sv gv b → Reads w tv1 1 (cut s 0 (s.length : Int) ++ [(q : Int)]) encI 0 → (fun w => w.heap[gx]? = some (.cells #[sv, iv b.hear.lo, iv b.hear.hi, iv b.br, iv b.cr, iv b.sl, gv] 27 (0, 0))) w → (fun w => w.heap[gc]? = some (.cells #[.func (.func 75) #[] #[.pointer (some ⟨gx, 0, none⟩), .pointer (some ⟨gc, 0, none⟩)]] 96 (0, 0))) w → Calls Tryd.prog 75 #[tv1, iv (s.length + (r + 1) : Nat), .pointer (some ⟨gx, 0, none⟩), .pointer (some ⟨gc, 0, none⟩)] w fun e w' => ∃ v, e = .returned (.tuple #[v, .bool (chooseW b r (cut s 0 (s.length : Int) ++ [(q : Int)])).2]) ∧ Below w.heap.size w w' ∧ Reads w' v 1 (chooseW b r (cut s 0 (s.length : Int) ++ [(q : Int)])).1 encI 0 ∧ (∀ g, vblk v = some g → vblk tv1 = some g ∨ (w.heap.size ≤ g ∧ g < w'.heap.size)) := by
        rw [hcut]; intro tv1 w h1 h2 h3 h4
        have h5 := ih (s ++ [(q : Int)]) tv1 w (somes_snoc hs hq2 (by omega)) (by simp; omega) h1 h2 h3 h4
        rwa [show (s ++ [(q : Int)]).length + r = s.length + (r + 1) from by simp; omega] at h5
      refine WP_skip ?_
      refine WP_seq (WP_block ?_)
      refine WP_seq (WP_toX (σ := Value) (fun sv1 => ⟨54, [(12, [], .s (.bool (chooseW b r ((cut s 0 (s.length : Int)) ++ ([(q : Int)]))).2)), (11, [], .s (.v sv1)), (10, [], .s (.int .i64 (q : Int))), (8, [], .s (.int .i64 (s.length : Int))), (0, [], .s (.ref 2)), (1, [], .s (.int .i64 ((s.length + (r + 1) : Nat) : Int))), (2, [], .s (.v (.pointer (some ⟨gx, 0, none⟩)))), (3, [], .s (.v (.pointer (some ⟨gc, 0, none⟩))))], [(8, slE sv1 1 (chooseW b r ((cut s 0 (s.length : Int)) ++ ([(q : Int)]))).1 encI 0), (0, .sl .ro 65 5 b.ships encShip zShip), (1, .sl .ro 70 4 b.sights encSight zSight), (2, .sl .ro 3 1 s encI 0), (3, .pf (fun w => w.heap[gx]? = some (.cells #[sv, iv b.hear.lo, iv b.hear.hi, iv b.br, iv b.cr, iv b.sl, gv] 27 (0, 0))) (· = gx)), (4, .pf (fun w => w.heap[gc]? = some (.cells #[.func (.func 75) #[] #[.pointer (some ⟨gx, 0, none⟩), .pointer (some ⟨gc, 0, none⟩)]] 96 (0, 0))) (· = gc))], 9, []⟩) ?_ ?_)
      · refine WP_drawH [] (by kernel_rfl) (by kernel_rfl) ?_
        refine H_LDG tt_ok 0 96 gc 0 (some 40) [.v (.func (.func 75) #[] #[.pointer (some ⟨gx, 0, none⟩), .pointer (some ⟨gc, 0, none⟩)])] 96 (.s (.v (.func (.func 75) #[] #[.pointer (some ⟨gx, 0, none⟩), .pointer (some ⟨gc, 0, none⟩)]))) (by kernel_rfl) (by kernel_rfl) (by kernel_rfl) (fun _ nV w h => (h.ents (4, .pf (fun w => w.heap[gc]? = some (.cells #[.func (.func 75) #[] #[.pointer (some ⟨gx, 0, none⟩), .pointer (some ⟨gc, 0, none⟩)]] 96 (0, 0))) (· = gc)) (fnd_mem (by kernel_rfl))).1) (by kernel_rfl) (by kernel_rfl) (by kernel_rfl) ?_
        refine H_run tt_ok [1, 2, 3, 5, 8] (f' := 9) (by kernel_rfl) (by kernel_rfl) (by kernel_rfl) ?_
        refine H_two 4 6 (by kernel_rfl) (by kernel_rfl) (by kernel_rfl) (fun hfz cx' hx1 hx2 => ?_) (fun hfz cx' hx1 hx2 => ?_)
        · refine SLC tt_ok 2 s.length .ro 3 1 0 (s.length : Int) (some (s.length : Int)) .full (some 44) (by kernel_rfl) (by kernel_rfl) ⟨by omega, by omega, by omega⟩ (.inr ⟨rfl, rfl⟩) ?_
          refine WPO_end (by kernel_rfl) ⟨rfl, (hfz.fnds [0, 1, 2, 3, 4] (by kernel_rfl) ⟨by kernel_rfl, by kernel_rfl, by kernel_rfl, by kernel_rfl, by kernel_rfl, trivial⟩ (by kernel_rfl)), ?_⟩
          refine H_step 6 (by kernel_rfl) (by kernel_rfl) (fun hfz cx' hx1 hx2 => ?_)
          refine LIT tt_ok (by kernel_rfl) ?_
          refine LITSL 6 3 1 1 [.int .i64 (q : Int)] [(q : Int)] encI 0 (by kernel_rfl) rfl (fun _ => rfl) (fun n => rfl) ?_
          refine WPO_end (by kernel_rfl) ⟨rfl, (hfz.fnds [0, 1, 2, 3, 4] (by kernel_rfl) ⟨by kernel_rfl, by kernel_rfl, by kernel_rfl, by kernel_rfl, by kernel_rfl, trivial⟩ (by kernel_rfl)), ?_⟩
          refine H_step 7 (by kernel_rfl) (by kernel_rfl) (fun hfz cx' hx1 hx2 => ?_)
          refine APP tt_ok (.s (.ref 5)) (.s (.ref 6)) 37 3 (some 47) 1 (cut s 0 (s.length : Int)) ([(q : Int)]) encI 0 (by kernel_rfl) (by kernel_rfl) (by kernel_rfl) (by kernel_rfl) (.inr (.inr ⟨5, rfl, (by kernel_rfl)⟩)) (.inr ⟨6, .own, rfl, (by kernel_rfl), (by simp only [List.length_cons, List.length_nil]; omega)⟩) (by simp) (fun y => rfl) (fun y => List.all_eq_true.1 rfl) (fun i hi => (by have hby : (tyL tt 3).map (·.bytes) = some 8 := (by kernel_rfl); rw [hi] at hby; simp only [Option.map_some, Option.some.injEq] at hby; rw [hby]; simp only [List.length_append, List.length_cons, List.length_nil]; omega)) ?_
          refine WPO_end (by kernel_rfl) ⟨rfl, (hfz.fnds [0, 1, 2, 3, 4] (by kernel_rfl) ⟨by kernel_rfl, by kernel_rfl, by kernel_rfl, by kernel_rfl, by kernel_rfl, trivial⟩ (by kernel_rfl)), ?_⟩
          refine H_step 9 (by kernel_rfl) (by kernel_rfl) (fun hfz cx' hx1 hx2 => ?_)
          refine CALLTK 75 [.s (.ref 7), .s (.int .i64 ((s.length + (r + 1) : Nat) : Int)), .s (.v (.pointer (some ⟨gx, 0, none⟩))), .s (.v (.pointer (some ⟨gc, 0, none⟩)))] (fun sv3 => .t [(false, [.v sv3]), (false, [.bool (chooseW b r ((cut s 0 (s.length : Int)) ++ ([(q : Int)]))).2])]) 7 3 1 ((cut s 0 (s.length : Int)) ++ ([(q : Int)])) encI 0 1 (chooseW b r ((cut s 0 (s.length : Int)) ++ ([(q : Int)]))).1 encI 0 (by kernel_rfl) (by kernel_rfl) (goes_of (by kernel_rfl)) (fun _ => (by kernel_rfl)) (fun _ => (by kernel_rfl)) (fun _ _ _ => rfl) (fun nV w h => (by have e0 : nV 0 = sv := (h.ini 0 (Nat.lt_of_lt_of_le (by show 0 < 3; decide) hx2.2.2)).trans (hx2.2.1 0 (by show 0 < 3; decide)); have e1 : nV 1 = gv := (h.ini 1 (Nat.lt_of_lt_of_le (by show 1 < 3; decide) hx2.2.2)).trans (hx2.2.1 1 (by show 1 < 3; decide)); exact ih0 (nV 7) w (by rw [← e0, ← e1]; exact ⟨h.reads (id := 0) (kd := .ro) (e := 65) (by kernel_rfl), h.reads (id := 1) (kd := .ro) (e := 70) (by kernel_rfl)⟩) (h.reads (id := 7) (kd := .own) (e := 3) (by kernel_rfl)) (h.ents (3, .pf (fun w => w.heap[gx]? = some (.cells #[sv, iv b.hear.lo, iv b.hear.hi, iv b.br, iv b.cr, iv b.sl, gv] 27 (0, 0))) (· = gx)) (fnd_mem (by kernel_rfl))).1 (h.ents (4, .pf (fun w => w.heap[gc]? = some (.cells #[.func (.func 75) #[] #[.pointer (some ⟨gx, 0, none⟩), .pointer (some ⟨gc, 0, none⟩)]] 96 (0, 0))) (· = gc)) (fnd_mem (by kernel_rfl))).1)) (fun sv3 => ?_)
          refine WPO_end (by kernel_rfl) ⟨rfl, (hfz.fnds [0, 1, 2, 3, 4] (by kernel_rfl) ⟨by kernel_rfl, by kernel_rfl, by kernel_rfl, by kernel_rfl, by kernel_rfl, trivial⟩ (by kernel_rfl)), ?_⟩
          refine H_run tt_ok [10, 11, 12, 13, 14] (f' := 0) (by kernel_rfl) (by kernel_rfl) (by kernel_rfl) ?_
          refine H_done (by kernel_rfl) ?_
          exact ⟨sv3, Le_sel (ts := [12, 11, 10, 8, 0, 1, 2, 3]) (ids := [8, 0, 1, 2, 3, 4]) (nx := 9) (by kernel_rfl)⟩
        · refine LIT tt_ok (by kernel_rfl) ?_
          refine LITSL 5 3 1 1 [.int .i64 (q : Int)] [(q : Int)] encI 0 (by kernel_rfl) rfl (fun _ => rfl) (fun n => rfl) ?_
          refine WPO_end (by kernel_rfl) ⟨rfl, (hfz.fnds [0, 1, 2, 3, 4] (by kernel_rfl) ⟨by kernel_rfl, by kernel_rfl, by kernel_rfl, by kernel_rfl, by kernel_rfl, trivial⟩ (by kernel_rfl)), ?_⟩
          refine H_step 4 (by kernel_rfl) (by kernel_rfl) (fun hfz cx' hx1 hx2 => ?_)
          refine SLC tt_ok 2 s.length .ro 3 1 0 (s.length : Int) (some (s.length : Int)) .full (some 44) (by kernel_rfl) (by kernel_rfl) ⟨by omega, by omega, by omega⟩ (.inr ⟨rfl, rfl⟩) ?_
          refine WPO_end (by kernel_rfl) ⟨rfl, (hfz.fnds [0, 1, 2, 3, 4] (by kernel_rfl) ⟨by kernel_rfl, by kernel_rfl, by kernel_rfl, by kernel_rfl, by kernel_rfl, trivial⟩ (by kernel_rfl)), ?_⟩
          refine H_step 7 (by kernel_rfl) (by kernel_rfl) (fun hfz cx' hx1 hx2 => ?_)
          refine APP tt_ok (.s (.ref 6)) (.s (.ref 5)) 37 3 (some 47) 1 (cut s 0 (s.length : Int)) ([(q : Int)]) encI 0 (by kernel_rfl) (by kernel_rfl) (by kernel_rfl) (by kernel_rfl) (.inr (.inr ⟨6, rfl, (by kernel_rfl)⟩)) (.inr ⟨5, .own, rfl, (by kernel_rfl), (by simp only [List.length_cons, List.length_nil]; omega)⟩) (by simp) (fun y => rfl) (fun y => List.all_eq_true.1 rfl) (fun i hi => (by have hby : (tyL tt 3).map (·.bytes) = some 8 := (by kernel_rfl); rw [hi] at hby; simp only [Option.map_some, Option.some.injEq] at hby; rw [hby]; simp only [List.length_append, List.length_cons, List.length_nil]; omega)) ?_
          refine WPO_end (by kernel_rfl) ⟨rfl, (hfz.fnds [0, 1, 2, 3, 4] (by kernel_rfl) ⟨by kernel_rfl, by kernel_rfl, by kernel_rfl, by kernel_rfl, by kernel_rfl, trivial⟩ (by kernel_rfl)), ?_⟩
          refine H_step 9 (by kernel_rfl) (by kernel_rfl) (fun hfz cx' hx1 hx2 => ?_)
          refine CALLTK 75 [.s (.ref 7), .s (.int .i64 ((s.length + (r + 1) : Nat) : Int)), .s (.v (.pointer (some ⟨gx, 0, none⟩))), .s (.v (.pointer (some ⟨gc, 0, none⟩)))] (fun sv4 => .t [(false, [.v sv4]), (false, [.bool (chooseW b r ((cut s 0 (s.length : Int)) ++ ([(q : Int)]))).2])]) 7 3 1 ((cut s 0 (s.length : Int)) ++ ([(q : Int)])) encI 0 1 (chooseW b r ((cut s 0 (s.length : Int)) ++ ([(q : Int)]))).1 encI 0 (by kernel_rfl) (by kernel_rfl) (goes_of (by kernel_rfl)) (fun _ => (by kernel_rfl)) (fun _ => (by kernel_rfl)) (fun _ _ _ => rfl) (fun nV w h => (by have e0 : nV 0 = sv := (h.ini 0 (Nat.lt_of_lt_of_le (by show 0 < 3; decide) hx2.2.2)).trans (hx2.2.1 0 (by show 0 < 3; decide)); have e1 : nV 1 = gv := (h.ini 1 (Nat.lt_of_lt_of_le (by show 1 < 3; decide) hx2.2.2)).trans (hx2.2.1 1 (by show 1 < 3; decide)); exact ih0 (nV 7) w (by rw [← e0, ← e1]; exact ⟨h.reads (id := 0) (kd := .ro) (e := 65) (by kernel_rfl), h.reads (id := 1) (kd := .ro) (e := 70) (by kernel_rfl)⟩) (h.reads (id := 7) (kd := .own) (e := 3) (by kernel_rfl)) (h.ents (3, .pf (fun w => w.heap[gx]? = some (.cells #[sv, iv b.hear.lo, iv b.hear.hi, iv b.br, iv b.cr, iv b.sl, gv] 27 (0, 0))) (· = gx)) (fnd_mem (by kernel_rfl))).1 (h.ents (4, .pf (fun w => w.heap[gc]? = some (.cells #[.func (.func 75) #[] #[.pointer (some ⟨gx, 0, none⟩), .pointer (some ⟨gc, 0, none⟩)]] 96 (0, 0))) (· = gc)) (fnd_mem (by kernel_rfl))).1)) (fun sv4 => ?_)
          refine WPO_end (by kernel_rfl) ⟨rfl, (hfz.fnds [0, 1, 2, 3, 4] (by kernel_rfl) ⟨by kernel_rfl, by kernel_rfl, by kernel_rfl, by kernel_rfl, by kernel_rfl, trivial⟩ (by kernel_rfl)), ?_⟩
          refine H_run tt_ok [10, 11, 12, 13, 14] (f' := 0) (by kernel_rfl) (by kernel_rfl) (by kernel_rfl) ?_
          refine H_done (by kernel_rfl) ?_
          exact ⟨sv4, Le_sel (ts := [12, 11, 10, 8, 0, 1, 2, 3]) (ids := [8, 0, 1, 2, 3, 4]) (nx := 9) (by kernel_rfl)⟩
      intro sv1
      refine WP_seq (WP_region (WPO_all tt_ok (by kernel_rfl) ?_))
      refine WP_cond ((chooseW b r ((cut s 0 (s.length : Int)) ++ ([(q : Int)]))).2) (by kernel_rfl) (fun hc107 => ?_) (fun hc107 => ?_)
      · refine WP_seq (WP_region (WPO_all tt_ok (by kernel_rfl) ?_))
        refine WP_ret ?_
        exact ⟨.t [(false, [.v sv1]), (false, [.bool true])], by kernel_rfl, fun nV w' h => ⟨sv1, by rw [choose_some hno hq1 hq2 (by rw [← hcut]; exact hc107)]; rw [← hcut]; rfl, h.bel, by rw [choose_some hno hq1 hq2 (by rw [← hcut]; exact hc107), ← hcut]; exact (slE_lt (id := 8) (v := sv1) (sz := 1) (li := (chooseW b r ((cut s 0 (s.length : Int)) ++ ([(q : Int)]))).1) (enc := encI) (z := 0) h (by kernel_rfl)).1, fun g hg => .inr ((slE_lt (id := 8) (v := sv1) (sz := 1) (li := (chooseW b r ((cut s 0 (s.length : Int)) ++ ([(q : Int)]))).1) (enc := encI) (z := 0) h (by kernel_rfl)).2 g hg)⟩⟩
      refine WP_skip ?_
      refine WP_region (WPO_all tt_ok (by kernel_rfl) ?_)
      refine ⟨(IntKind.i64.wrap ((q : Int) + 1)), ?_, ?_, Le_sel (ts := [10, 8, 0, 1, 2, 3]) (ids := [0, 1, 2, 3, 4]) (nx := 5) (by kernel_rfl)⟩
      · refine ⟨q + 1, by rw [wrapI (by omega) (by omega)]; rfl, by omega, by omega, fun p h1 h2 => ?_⟩
        by_cases e : p = q
        · subst e; rw [hcut] at hc107; exact hc107
        · exact hno p h1 (by omega)
      · rw [wrapI (by omega) (by omega)]
        omega
    have hc105' := of_decide_eq_false hc105
    refine WP_exit ?_
    obtain rfl : q = b.sights.length := by omega
    replace hno : ∀ p, frmW s ≤ p → p < b.sights.length → (chooseW b r (s ++ [(p : Int)])).2 = false := hno
    refine WP_seq (WP_region (WPO_all tt_ok (by kernel_rfl) ?_))
    refine WP_ret ?_
    exact ⟨.t [(false, [.v (.slice none 0 0)]), (false, [.bool false])], by kernel_rfl, fun nV w' h => ⟨.slice none 0 0, by rw [choose_none hno]; rfl, h.bel, by rw [choose_none hno]; exact reads_nil, fun g hg => by cases hg⟩⟩
end Go.Proofs.YtamimgmoomcipaaDoor.Fw
namespace Go.Proofs.YtamimgmoomcipaaDoor.Eng
open Go Go.RowKit
set_option linter.unusedVariables false
set_option linter.unusedSimpArgs false
def slenA (tt : TT) (ops : Array Oper) (s : AS) : List Oper → Option (AV × List (Bool × Bool) × Option Tmp × List (Nat × Bool))
  | o :: _ => match o.op, gTag s ops o with
    | .call c, some T => match c.callee, c.args.toList, c.argTypes.toList with
      | .builtin .len, [x], [t] => match tyL tt t, ev s T x with
        | some ⟨_, _, _, .slice _⟩, some v => some (v, tagL s T, o.dst, T)
        | _, _ => none
      | _, _, _ => none
    | _, _ => none
  | [] => none
def slenP (tt : TT) (ops : Array Oper) (s : AS) (l : List Oper) (N : Nat) : Option AS :=
  match slenA tt ops s l with
  | some (_, _, d, T) => s.put d T (.s (.int .i64 (N : Int)))
  | none => none
def slvA (tt : TT) (s : AS) (e : TypeId) (sz : Nat) (len : Nat) : List Oper → Option (AV × Int × Int × Option Int × Option Tmp)
  | o :: _ => match o.op, o.guard with
    | .slice t x lo hi mx, none => match ev s [] x with
      | some v => bif isSlK tt t e && isSz tt e sz && (mx.isNone || hi.isSome) then
            match bnd s 0 lo, bnd s len hi, (match mx with | none => some none | some m => (bnd s 0 (some m)).map some : Option (Option Int)) with
            | some i, some j, some m => some (v, i, j, m, o.dst)
            | _, _, _ => none
          else none
      | _ => none
    | _, _ => none
  | [] => none
section
variable {P : Program} {tt : TT} {cx : Cx} {s s' : AS} {Q : Exit → AS → Prop} {ops : Array Oper} {l : List Oper}
theorem slen_sound (hT : TTok P tt) {v : AV} {G : List (Bool × Bool)} {d : Option Tmp} {T : List (Nat × Bool)} (h : slenA tt ops s l = some (v, G, d, T)) (N : Nat) : ∃ (o : Oper) (rest : List Oper), l = o :: rest ∧ gTag s ops o = some T ∧ d = o.dst ∧ G = tagL s T ∧
    ∀ (cx : Cx) n a w, HSat cx n s w → (∀ x ∈ s.env, EntOk n s a x) → Holds a T → (∃ A c, v.c n = .slice A N c) →
      (execOp a.eval o).run P w = .ok (.value (.int .i64 (N : Int))) w := by
  cases l with
  | nil => cases h
  | cons o rest =>
    simp only [slenA] at h
    split at h <;> try (cases h; done)
    rename_i c T' ho hg
    split at h <;> try (cases h; done)
    rename_i x t hc hargs htys
    split at h <;> try (cases h; done)
    rename_i z1 b1 zv k v' ht hx
    simp only [Option.some.injEq, Prod.mk.injEq] at h
    obtain ⟨rfl, rfl, rfl, rfl⟩ := h
    refine ⟨o, rest, rfl, hg, rfl, rfl, fun cx n a w hh henv hH hm => ?_⟩
    obtain ⟨A, cp, hv⟩ := hm
    obtain ⟨F⟩ := hT.get ht
    have hd : F.desc = .slice k := by
      have := F.td
      cases hd : F.desc <;> rw [hd] at this <;> simp only [tdOf] at this <;> first
        | (cases this; done)
        | (injection this with h1; rw [h1])
    obtain ⟨e1, _⟩ := ev_sound henv hH hx
    have ha : c.args = #[x] := by apply Array.ext'; simpa using hargs
    have hty : c.argTypes = #[t] := by apply Array.ext'; simpa using htys
    unfold execOp
    rw [ho]
    simp only [resolve, hc, ha, hty, Sem.run_bind, Sem.run_pure, Result.andThen_ok, invoke]
    simp [builtin, Builtin.len_, e1, hv, run_underlying F.hdesc, hd, goInt]
theorem SLEN (hT : TTok P tt) (v : AV) (G : List (Bool × Bool)) (N : Nat) (h : (slenA tt ops s l).map (fun z => (z.1, z.2.1)) = some (v, G)) (hm : AllEq G → ∀ n w, HSat cx n s w → ∃ A c, v.c n = .slice A N c)
    (hp : (slenP tt ops s l N).isSome = true) (hK : WPO P cx ops l.tail ((slenP tt ops s l N).getD s) Q) : WPO P cx ops l s Q := by
  obtain ⟨⟨v', G', d, T⟩, hr, he⟩ := Option.map_eq_some_iff.1 h
  simp only [Prod.mk.injEq] at he
  obtain ⟨rfl, rfl⟩ := he
  obtain ⟨o, rest, rfl, hg, rfl, rfl, hrun⟩ := slen_sound (P := P) hT hr N
  obtain ⟨s', hs'⟩ := Option.isSome_iff_exists.1 hp
  rw [hs'] at hK
  simp only [slenP, hr] at hs'
  exact WPO_val hg hs' (fun hp n a w hh henv hH => ⟨hrun cx n a w hh henv hH (hm (tagP_all hp) n w hh), trivial⟩) hK
theorem SLVF (hT : TTok P tt) (id : Nat) (v0 : Value) (e : TypeId) (sz : Nat) {α : Type} (li : List α) (enc : α → List Value) (z : α) (d : Option Tmp) (h : slvA tt s e sz li.length l = some (.s (.v v0), 0, (li.length : Int), some (li.length : Int), d)) (hf : fnd s.hp id = some (slE v0 sz li enc z))
    (hp : ∀ v, (AS.put (AS.add { s with hp := rem s.hp id } (slE v sz li enc z)) d [] (.s (.v v))).isSome = true)
    (hK : ∀ v, WPO P cx ops l.tail ((AS.put (AS.add { s with hp := rem s.hp id } (slE v sz li enc z)) d [] (.s (.v v))).getD s) Q) : WPO P cx ops l s Q := by
  cases l with
  | nil => cases h
  | cons o rest =>
    simp only [slvA] at h
    split at h <;> try (cases h; done)
    rename_i t x lo hi mx' ho hg
    split at h <;> try (cases h; done)
    rename_i v' hx
    rcases hb : (isSlK tt t e && isSz tt e sz && (mx'.isNone || hi.isSome)) with _ | _
    · rw [hb] at h; cases h
    · rw [hb] at h
      simp only [Bool.and_eq_true] at hb
      simp only [cond_true] at h
      split at h <;> try (cases h; done)
      rename_i i' j' m' hlo hhi hmx
      simp only [Option.some.injEq, Prod.mk.injEq] at h
      obtain ⟨rfl, rfl, rfl, rfl, rfl⟩ := h
      intro n a w hs
      have hw : Region.wanted o (yielded ops a.tmps) = true := by simp [Region.wanted, hg]
      have hH : Holds a [] := fun x hx => by cases hx
      obtain ⟨tti, htt, htd⟩ := Option.map_eq_some_iff.1 (isSlK_spec hb.1.1)
      obtain ⟨ei, hee, hes⟩ := Option.map_eq_some_iff.1 (isSz_spec hb.1.2)
      obtain ⟨F⟩ := hT.get htt
      obtain ⟨G⟩ := hT.get hee
      have hd : F.desc = .slice e := by
        have := F.td
        rw [htd] at this
        cases hd : F.desc <;> rw [hd] at this <;> simp only [tdOf] at this <;> first
          | (cases this; done)
          | (injection this with h; rw [h])
      have he0 := hs.heap.ents _ (fnd_mem hf)
      have hr : Reads w v0 sz li enc z := he0.1
      obtain ⟨A, c, hv, hlc, hcm, hA⟩ := he0.1
      obtain ⟨ex, _⟩ := ev_sound hs.env hH hx
      simp only [AV.c, AC.c] at ex
      have hbnd : ∀ (dv : Int) (q : Option Operand) (r : Int), bnd s dv q = some r → bv dv (q.map a.eval) r := fun dv q r hq => by
        cases q with
        | none => simp only [bnd] at hq; cases hq; rfl
        | some q =>
          simp only [bnd] at hq
          split at hq
          · rename_i r' hr'
            cases hq
            obtain ⟨e1, _⟩ := ev_sound hs.env hH hr'
            exact e1
          · cases hq
      have hmv : bv (c : Int) (mx'.map a.eval) (li.length : Int) := by
        cases mx' with
        | none => cases hmx
        | some q =>
          obtain ⟨m, hm, hm2⟩ := Option.map_eq_some_iff.1 hmx
          cases hm2
          exact hbnd 0 (some q) _ hm
      have hrun : (execOp a.eval o).run P w = .ok (.value (.slice (if ((li.length : Nat) : Int).toNat = (0 : Int).toNat then A else A.map (·.add ((0 : Int).toNat * sz))) (((li.length : Nat) : Int).toNat - (0 : Int).toNat) (((li.length : Nat) : Int).toNat - (0 : Int).toNat))) w := by
        unfold execOp
        rw [ho]
        have hbs := run_bounds (P := P) (w := w) (len := li.length) (cap := c) (lo := lo.map a.eval) (hi := hi.map a.eval) (mx := mx'.map a.eval) (i := 0) (j := (li.length : Int)) (m := (li.length : Int)) (hbnd 0 lo 0 hlo) (hbnd _ hi _ hhi) hmv (by simpa using hb.2) ⟨by omega, by omega, by omega, by omega⟩
        simp only [Instr.sliceAt, ex, hv, Sem.run_bind, run_underlying F.hdesc, hd, Result.andThen_ok, Instr.slice, hbs, run_sizeOf' G, hes, Sem.run_pure]
      have hcr := cut_reads (w := w) (A := A) (c := c) (m := (li.length : Int)) (i := 0) (j := (li.length : Int)) (by rw [← hv]; exact hr) ⟨by omega, by omega, by omega⟩ ⟨by omega, by omega⟩
      have hcut : cut li 0 (li.length : Int) = li := by simp [cut]
      rw [hcut] at hcr
      have hblk : ∀ g, vblk (Value.slice (if ((li.length : Nat) : Int).toNat = (0 : Int).toNat then A else A.map (·.add ((0 : Int).toNat * sz))) (((li.length : Nat) : Int).toNat - (0 : Int).toNat) (((li.length : Nat) : Int).toNat - (0 : Int).toNat)) = some g → vblk v0 = some g := by
        rw [hv]
        intro g hg
        cases A with
        | none => split at hg <;> cases hg
        | some ad =>
          split at hg
          · exact hg
          · simpa [vblk, add_block] using hg
      generalize Value.slice (if ((li.length : Nat) : Int).toNat = (0 : Int).toNat then A else A.map (·.add ((0 : Int).toNat * sz))) (((li.length : Nat) : Int).toNat - (0 : Int).toNat) (((li.length : Nat) : Int).toNat - (0 : Int).toNat) = V at hrun hcr hblk
      have hdis : ∀ x ∈ rem s.hp id, ∀ g, x.2.foot (n x.1) g → vblk v0 ≠ some g := fun x hx g hg hv => by
        have hsym : ∀ (x y : Nat × HE), ((x.2.mut = true ∨ y.2.mut = true) → ∀ g, x.2.foot (n x.1) g → ¬ y.2.foot (n y.1) g) → ((y.2.mut = true ∨ x.2.mut = true) → ∀ g, y.2.foot (n y.1) g → ¬ x.2.foot (n x.1) g) :=
          fun x y h hm g h1 h2 => h hm.symm g h2 h1
        exact pw_mem hsym hs.heap.sep ((rem_sub s.hp id).subset hx) (fnd_mem hf) (fun e => rem_ne hx (by rw [e])) (.inr rfl) g hg hv
      have hs0 : Sat cx n { s with hp := rem s.hp id } a w := env_hp hs (rem_more s id) (hs.heap.rem id)
      have hs1 : Sat cx (upd n s.nx .nilFunc) (AS.add { s with hp := rem s.hp id } (slE V sz li enc z)) a w :=
        env_add hs0 (upd_lt n s.nx _) (hs0.heap.add (Below.refl _ _) rfl ⟨hcr, fun g hg => he0.2.1 g (hblk g hg), fun w1 w2 h hw => h.stab hw⟩ trivial (fun g hg => hs.heap.lt _ (fnd_mem hf) g (hblk g hg)) (fun g hg => .inr fun x hx _ hxg => hdis x hx g hxg (hblk g hg)))
      obtain ⟨s', hs'⟩ := Option.isSome_iff_exists.1 (hp V)
      have hK' := hK V
      rw [hs'] at hK'
      exact wp_value hw hrun (hK' _ _ _ (put_sat hs1 hs' (fun _ => ⟨rfl, trivial⟩) (fun hn => absurd hH hn)))
end
end Go.Proofs.YtamimgmoomcipaaDoor.Eng
namespace Go.Proofs.YtamimgmoomcipaaDoor.Fw
open Go Go.RowKit Go.Proofs.YtamimgmoomcipaaDoor.Eng 
set_option linter.unusedVariables false
set_option linter.unusedSimpArgs false
def wrongQ (b : Book) : Option Nat := (List.range (b.sights.length + 1)).find? fun q => (chooseW b q []).2
theorem wrongQ_none {b : Book} (h : ∀ p, p < b.sights.length + 1 → (chooseW b p []).2 = false) : wrongQ b = none := List.find?_eq_none.2 fun q hq => by rw [h q (List.mem_range.1 hq)]; decide
theorem wrongQ_some {b : Book} {q : Nat} (h : ∀ p, p < q → (chooseW b p []).2 = false) (h1 : q < b.sights.length + 1) (h2 : (chooseW b q []).2 = true) : wrongQ b = some q := by
  unfold wrongQ
  rw [List.find?_eq_some_iff_append]
  refine ⟨h2, List.range q, List.range' (q + 1) (b.sights.length - q), ?_, fun p hp => ?_⟩
  · rw [List.range_eq_range', List.range_eq_range', show b.sights.length + 1 = q + (1 + (b.sights.length - q)) by omega, ← List.range'_append, ← List.range'_append]
    simp
  · rw [h p (List.mem_range.1 hp)]; rfl
theorem choose_top {b : Book} (hv : Valid b) (a0 a1 x c cl : Value) (gx gc q : Nat) (w : World) (hq : q ≤ 5) (hb : BookAt w a0 a1 b) (hx : x = .pointer (some ⟨gx, 0, none⟩)) (hc : c = .pointer (some ⟨gc, 0, none⟩))
    (hxh : w.heap[gx]? = some (.cells #[a0, iv b.hear.lo, iv b.hear.hi, iv b.br, iv b.cr, iv b.sl, a1] 27 (0, 0))) (hcl : cl = .func (.func 75) #[] #[ptrAt x 0, ptrAt c 0]) (hch : w.heap[gc]? = some (.cells #[cl] 96 (0, 0))) :
    Calls Tryd.prog 75 #[.slice none 0 0, iv q, ptrAt x 0, ptrAt c 0] w fun e w' => ∃ v, e = .returned (.tuple #[v, .bool (chooseW b q []).2]) ∧ Below w.heap.size w w' ∧ Reads w' v 1 (chooseW b q []).1 encI 0 ∧ (∀ g, vblk v = some g → w.heap.size ≤ g ∧ g < w'.heap.size) := by
  subst hx hc
  simp only [ptrAt, Nat.add_zero] at *
  subst hcl
  have h5 := choose_calls b hv a0 a1 gx gc q [] (.slice none 0 0) w ⟨by simp, fun x hx => by cases hx⟩ (by simp; omega) hb reads_nil hxh hch
  simp only [List.length_nil, Nat.zero_add] at h5
  exact h5.mono fun e w' ⟨v, h1, h2, h3, h4⟩ => ⟨v, h1, h2, h3, fun g hg => (h4 g hg).resolve_left (fun h => by cases h)⟩
def wrongA (b : Book) : List Int × Int := if checkW b = 0 then (match wrongQ b with | some q => ((chooseW b q []).1, 0) | none => ([], 42)) else ([], checkW b)
theorem wrongA_calls (g0 g1 : Value) (b : Book) (w : World) (r0 : Reads w g0 5 b.ships encShip zShip) (r1 : Reads w g1 4 b.sights encSight zSight)  : Calls Tryd.prog 26 #[.agg #[g0, iv b.hear.lo, iv b.hear.hi, iv b.br, iv b.cr, iv b.sl, g1]] w fun e w' => ∃ v0, e = .returned (.tuple #[v0, iv (wrongA b).2]) ∧ Below w.heap.size w w' ∧ Reads w' v0 1 (wrongA b).1 encI 0 ∧ (∀ g, vblk v0 = some g → w.heap.size ≤ g ∧ g < w'.heap.size) := by
  refine calls_of_WP (cx := cx0 w (vn [g0, g1]) 2) (n := vn [g0, g1]) (vs := [.g [.ref 0, .int .i64 b.hear.lo, .int .i64 b.hear.hi, .int .i64 b.br, .int .i64 b.cr, .int .i64 b.sl, .ref 1]]) (hp := [(0, .sl .ro 65 5 b.ships encShip zShip), (1, .sl .ro 70 4 b.sights encSight zSight)]) (nx := 2) tt_ok Tryd.func26 rfl rfl rfl (by kernel_rfl) (HSat_args (vn_one (by simp [r0.one, r1.one])) (Nat.le_refl _) ⟨⟨⟨fun _ => rfl, by decide, r0⟩, (Nat.le_of_ble_eq_true rfl)⟩, ⟨⟨fun _ => rfl, by decide, r1⟩, (Nat.le_of_ble_eq_true rfl)⟩, trivial⟩) (vsOk (by kernel_rfl)) ?_
  have hl0 := Reads.len r0
  have hl1 := Reads.len r1
  refine WP_seq (WP_region (WPO_all tt_ok (by kernel_rfl) ?_))
  refine WP_seq (WP_seq (WP_region (WPO_run tt_ok 1 (by kernel_rfl) ?_)))
  refine CALL 45 [.g [.ref 0, .int .i64 b.hear.lo, .int .i64 b.hear.hi, .int .i64 b.br, .int .i64 b.cr, .int .i64 b.sl, .ref 1]] (.s (.int .i64 (checkW b))) [] (by kernel_rfl) (goes_of (by kernel_rfl)) (by kernel_rfl) (by kernel_rfl) (fun _ nV w h => Check_calls (nV 0) (nV 1) b w ⟨h.reads (id := 0) (kd := .ro) (e := 65) (by kernel_rfl), h.reads (id := 1) (kd := .ro) (e := 70) (by kernel_rfl)⟩) ?_
  refine WPO_all tt_ok (by kernel_rfl) ?_
  refine WP_seq (WP_region (WPO_all tt_ok (by kernel_rfl) ?_))
  refine WP_cond ((checkW b) != 0) (by kernel_rfl) (fun hc2 => ?_) (fun hc2 => ?_)
  · have hc2' := hc2; try simp only [Bool.and_eq_true, Bool.or_eq_true, Bool.and_eq_false_iff, Bool.or_eq_false_iff, Bool.not_eq_true', Bool.not_eq_false', decide_eq_true_eq, decide_eq_false_iff_not, beq_iff_eq, beq_eq_false_iff_ne, bne_iff_ne, bne_eq_false_iff_eq, ne_eq] at hc2'
    refine WP_seq (WP_region (WPO_all tt_ok (by kernel_rfl) ?_))
    refine WP_ret ?_
    exact ⟨.t [(false, [.v (.slice none 0 0)]), (false, [.int .i64 (checkW b)])], by kernel_rfl, fun nV w' h => ⟨.slice none 0 0, by rw [show wrongA b = ([], checkW b) from by unfold wrongA; rw [if_neg (bne_iff_ne.1 hc2)]]; rfl, h.bel, by rw [show wrongA b = ([], checkW b) from by unfold wrongA; rw [if_neg (bne_iff_ne.1 hc2)]]; exact reads_nil, fun g hg => by cases hg⟩⟩
  have hc2' := hc2; try simp only [Bool.and_eq_true, Bool.or_eq_true, Bool.and_eq_false_iff, Bool.or_eq_false_iff, Bool.not_eq_true', Bool.not_eq_false', decide_eq_true_eq, decide_eq_false_iff_not, beq_iff_eq, beq_eq_false_iff_ne, bne_iff_ne, bne_eq_false_iff_eq, ne_eq] at hc2'
  refine WP_skip ?_
  have hv : Valid b := check_valid.1 (by assumption)
  have hbg := hv.nsights
  have hws : IntKind.i64.wrap ((b.sights.length : Int) + 1) = (b.sights.length : Int) + 1 := wrapI (by omega) (by omega)
  refine WP_seq (WP_region (WPO_all tt_ok (by kernel_rfl) ?_))
  refine WP_seq (WP_region (WPO_all tt_ok (by kernel_rfl) ?_))
  refine WP_seq (WP_seq (WP_region (WPO_all tt_ok (by kernel_rfl) ?_)))
  refine WP_block (WP_loop (σ := Int) (fun zz => ⟨36, [(19, [], .s (.int .i64 zz)), (18, [], .s (.int .i64 (IntKind.i64.wrap ((b.sights.length : Int) + 1)))), (5, [], .s (.p 3 0))], [(4, .clo 75 [] [.s (.p 2 0), .s (.p 3 0)]), (3, .box 96 [.ref 4]), (2, .box 27 [.ref 0, .int .i64 b.hear.lo, .int .i64 b.hear.hi, .int .i64 b.br, .int .i64 b.cr, .int .i64 b.sl, .ref 1]), (0, .sl .ro 65 5 b.ships encShip zShip), (1, .sl .ro 70 4 b.sights encSight zSight)], 5, []⟩) (fun zz => ∃ q : Nat, zz = q ∧ q ≤ b.sights.length + 1 ∧ ∀ p, p < q → (chooseW b p []).2 = false) (fun zz => b.sights.length + 1 - zz.toNat) 0 (⟨0, rfl, by omega, fun p h => by omega⟩) (Le_sel (ts := [19, 18, 5]) (ids := [4, 3, 2, 0, 1]) (nx := 5) (by kernel_rfl)) ?_)
  rintro n hinv
  obtain ⟨q, hn, hq1, hno⟩ := hinv
  subst hn
  refine WP_seq (WP_region (WPO_all tt_ok (by kernel_rfl) ?_))
  refine WP_seq (WP_cond (decide ((q : Int) < (IntKind.i64.wrap ((b.sights.length : Int) + 1)))) (by kernel_rfl) (fun hc4 => ?_) (fun hc4 => ?_))
  · have hc4' := of_decide_eq_true hc4
    rw [hws] at hc4'
    replace hq1 : q < b.sights.length + 1 := by omega
    refine WP_skip ?_
    refine WP_seq (WP_block ?_)
    refine WP_seq (WP_region (WPO_all tt_ok (by kernel_rfl) ?_))
    refine WP_seq (WP_region (WPO_run tt_ok 2 (by kernel_rfl) ?_))
    refine CALLSL 75 [.s (.v (.slice none 0 0)), .s (.int .i64 (q : Int)), .s (.p 2 0), .s (.p 3 0)] (fun sv1 => .t [(false, [.v sv1]), (false, [.bool (chooseW b q []).2])]) 1 (chooseW b q []).1 encI 0 (by decide) (by kernel_rfl) (goes_of (by kernel_rfl)) (fun _ => (by kernel_rfl)) (fun _ => (by kernel_rfl)) (fun _ _ _ => rfl) (fun nV w h => by
      obtain ⟨gx, hx1, _, hx2⟩ := h.ents (2, .box 27 [.ref 0, .int .i64 b.hear.lo, .int .i64 b.hear.hi, .int .i64 b.br, .int .i64 b.cr, .int .i64 b.sl, .ref 1]) (fnd_mem (by kernel_rfl))
      obtain ⟨gc, hc1, _, hc2⟩ := h.ents (3, .box 96 [.ref 4]) (fnd_mem (by kernel_rfl))
      exact choose_top hv (nV 0) (nV 1) (nV 2) (nV 3) (nV 4) gx gc q w (by omega) ⟨h.reads (id := 0) (kd := .ro) (e := 65) (by kernel_rfl), h.reads (id := 1) (kd := .ro) (e := 70) (by kernel_rfl)⟩ hx1 hc1 hx2 (h.ents (4, .clo 75 [] [.s (.p 2 0), .s (.p 3 0)]) (fnd_mem (by kernel_rfl))) hc2) (fun sv1 => ?_)
    refine WPO_all tt_ok (by kernel_rfl) ?_
    refine WP_seq (WP_region (WPO_all tt_ok (by kernel_rfl) ?_))
    refine WP_cond ((chooseW b q []).2) (by kernel_rfl) (fun hc6 => ?_) (fun hc6 => ?_)
    · refine WP_seq (WP_region (WPO_run tt_ok 2 (by kernel_rfl) ?_))
      refine SLEN tt_ok (.s (.v sv1)) [] (chooseW b q []).1.length (by kernel_rfl) (fun _ n w h => by obtain ⟨A, c, hv, _⟩ := (h.ents (5, slE sv1 1 (chooseW b q []).1 encI 0) (fnd_mem (by kernel_rfl))).1; exact ⟨A, c, hv⟩) (by kernel_rfl) ?_
      refine WPO_run tt_ok 1 (by kernel_rfl) ?_
      refine SLEN tt_ok (.s (.v sv1)) [] (chooseW b q []).1.length (by kernel_rfl) (fun _ n w h => by obtain ⟨A, c, hv, _⟩ := (h.ents (5, slE sv1 1 (chooseW b q []).1 encI 0) (fnd_mem (by kernel_rfl))).1; exact ⟨A, c, hv⟩) (by kernel_rfl) ?_
      refine SLVF tt_ok 5 sv1 3 1 (chooseW b q []).1 encI 0 (some 34) (by kernel_rfl) (by kernel_rfl) (fun _ => (by kernel_rfl)) (fun sv2 => ?_)
      refine WPO_all tt_ok (by kernel_rfl) ?_
      refine WP_ret ?_
      exact ⟨.t [(false, [.v sv2]), (false, [.int .i64 0])], by kernel_rfl, fun nV w' h => ⟨sv2, by rw [show wrongA b = ((chooseW b q []).1, 0) from by unfold wrongA; rw [if_pos (bne_eq_false_iff_eq.1 hc2), wrongQ_some hno hq1 hc6]]; rfl, h.bel, by rw [show wrongA b = ((chooseW b q []).1, 0) from by unfold wrongA; rw [if_pos (bne_eq_false_iff_eq.1 hc2), wrongQ_some hno hq1 hc6]]; exact (slE_lt (id := 6) (v := sv2) (sz := 1) (li := (chooseW b q []).1) (enc := encI) (z := 0) h (by kernel_rfl)).1, (slE_lt (id := 6) (v := sv2) (sz := 1) (li := (chooseW b q []).1) (enc := encI) (z := 0) h (by kernel_rfl)).2⟩⟩
    refine WP_skip ?_
    refine WP_region (WPO_all tt_ok (by kernel_rfl) ?_)
    refine ⟨(IntKind.i64.wrap ((q : Int) + 1)), ?_, ?_, Le_sel (ts := [19, 18, 5]) (ids := [4, 3, 2, 0, 1]) (nx := 5) (by kernel_rfl)⟩
    · refine ⟨q + 1, by rw [wrapI (by omega) (by omega)]; rfl, by omega, fun p h1 => ?_⟩
      by_cases e : p = q
      · subst e; exact hc6
      · exact hno p (by omega)
    · rw [wrapI (by omega) (by omega)]
      omega
  have hc4' := of_decide_eq_false hc4
  refine WP_exit ?_
  rw [hws] at hc4'
  obtain rfl : q = b.sights.length + 1 := by omega
  refine WP_seq (WP_region (WPO_all tt_ok (by kernel_rfl) ?_))
  refine WP_ret ?_
  exact ⟨.t [(false, [.v (.slice none 0 0)]), (false, [.int .i64 42])], by kernel_rfl, fun nV w' h => ⟨.slice none 0 0, by rw [show wrongA b = ([], 42) from by unfold wrongA; rw [if_pos (bne_eq_false_iff_eq.1 hc2), wrongQ_none hno]]; rfl, h.bel, by rw [show wrongA b = ([], 42) from by unfold wrongA; rw [if_pos (bne_eq_false_iff_eq.1 hc2), wrongQ_none hno]]; exact reads_nil, fun g hg => by cases hg⟩⟩
end Go.Proofs.YtamimgmoomcipaaDoor.Fw
namespace Go.Proofs.YtamimgmoomcipaaDoor.Rf
open Go Go.RowKit Go.Proofs.YtamimgmoomcipaaDoor.Eng Go.Proofs.YtamimgmoomcipaaDoor.Fw
set_option linter.unusedVariables false
set_option linter.unusedSimpArgs false
def insideF (n : Int) (low : Int) (high : Int) : Bool :=
  (decide (n ≥ low)) && (decide (n ≤ high))
theorem insideF_calls  (n : Int) (low : Int) (high : Int) (w : World)   : Calls Tryd.prog 32 #[iv n, iv low, iv high] w fun e w' => e = .returned (.bool (insideF n low high)) ∧ Below w.heap.size w w' := by
  refine calls_of_WP (cx := cx0 w Eng.n0 0) (n := Eng.n0) (vs := [.s (.int .i64 n), .s (.int .i64 low), .s (.int .i64 high)]) (hp := []) (nx := 0) tt_ok Tryd.func32 rfl rfl rfl (by kernel_rfl) (HSat0 _ _ _ _ _ _ (fun _ => rfl) (Nat.le_refl _)) (vsOk (by kernel_rfl)) ?_
  refine WP_seq (WP_region (WPO_all tt_ok (by kernel_rfl) ?_))
  refine WP_seq (WP_region (WPO_all tt_ok (by kernel_rfl) ?_))
  refine WP_ret ?_
  exact ⟨.s (.bool ((decide (n ≥ low)) && (decide (n ≤ high)))), by kernel_rfl, fun nV w' h => ⟨by rw [show insideF n low high = ((decide (n ≥ low)) && (decide (n ≤ high))) from rfl]; rfl, h.bel⟩⟩
def rangeF (low : Int) (high : Int) : Span :=
  (⟨low, high⟩ : Span)
theorem rangeF_calls  (low : Int) (high : Int) (w : World)   : Calls Tryd.prog 41 #[iv low, iv high] w fun e w' => e = .returned (.agg #[iv (rangeF low high).lo, iv (rangeF low high).hi]) ∧ Below w.heap.size w w' := by
  refine calls_of_WP (cx := cx0 w Eng.n0 0) (n := Eng.n0) (vs := [.s (.int .i64 low), .s (.int .i64 high)]) (hp := []) (nx := 0) tt_ok Tryd.func41 rfl rfl rfl (by kernel_rfl) (HSat0 _ _ _ _ _ _ (fun _ => rfl) (Nat.le_refl _)) (vsOk (by kernel_rfl)) ?_
  refine WP_seq (WP_region (WPO_all tt_ok (by kernel_rfl) ?_))
  refine WP_seq (WP_region (WPO_all tt_ok (by kernel_rfl) ?_))
  refine WP_ret ?_
  exact ⟨.g [.int .i64 low, .int .i64 high], by kernel_rfl, fun nV w' h => ⟨by rw [show rangeF low high = (⟨low, high⟩ : Span) from rfl]; rfl, h.bel⟩⟩
def pointF (n : Int) : Span :=
  (rangeF n n)
theorem pointF_calls  (n : Int) (w : World)   : Calls Tryd.prog 38 #[iv n] w fun e w' => e = .returned (.agg #[iv (pointF n).lo, iv (pointF n).hi]) ∧ Below w.heap.size w w' := by
  refine calls_of_WP (cx := cx0 w Eng.n0 0) (n := Eng.n0) (vs := [.s (.int .i64 n)]) (hp := []) (nx := 0) tt_ok Tryd.func38 rfl rfl rfl (by kernel_rfl) (HSat0 _ _ _ _ _ _ (fun _ => rfl) (Nat.le_refl _)) (vsOk (by kernel_rfl)) ?_
  refine WP_seq (WP_region (WPO_all tt_ok (by kernel_rfl) ?_))
  refine WP_seq (WP_region (WPO_run tt_ok 2 (by kernel_rfl) ?_))
  refine CALL 41 [.s (.int .i64 n), .s (.int .i64 n)] (.g [.int .i64 (rangeF n n).lo, .int .i64 (rangeF n n).hi]) [] (by kernel_rfl) (goes_of (by kernel_rfl)) (by kernel_rfl) (by kernel_rfl) (fun _ nV w h => rangeF_calls  n n w  ) ?_
  refine WPO_all tt_ok (by kernel_rfl) ?_
  refine WP_ret ?_
  exact ⟨.g [.int .i64 (rangeF n n).lo, .int .i64 (rangeF n n).hi], by kernel_rfl, fun nV w' h => ⟨by rw [show pointF n = (rangeF n n) from rfl]; rfl, h.bel⟩⟩
def validF (s : Span) (low : Int) (high : Int) : Bool :=
  ((decide (s.lo ≥ low)) && (decide (s.lo ≤ s.hi))) && (decide (s.hi ≤ high))
theorem validF_calls  (s : Span) (low : Int) (high : Int) (w : World)   : Calls Tryd.prog 39 #[.agg #[iv s.lo, iv s.hi], iv low, iv high] w fun e w' => e = .returned (.bool (validF s low high)) ∧ Below w.heap.size w w' := by
  refine calls_of_WP (cx := cx0 w Eng.n0 0) (n := Eng.n0) (vs := [.g [.int .i64 s.lo, .int .i64 s.hi], .s (.int .i64 low), .s (.int .i64 high)]) (hp := []) (nx := 0) tt_ok Tryd.func39 rfl rfl rfl (by kernel_rfl) (HSat0 _ _ _ _ _ _ (fun _ => rfl) (Nat.le_refl _)) (vsOk (by kernel_rfl)) ?_
  refine WP_seq (WP_region (WPO_all tt_ok (by kernel_rfl) ?_))
  refine WP_seq (WP_region (WPO_all tt_ok (by kernel_rfl) ?_))
  refine WP_ret ?_
  exact ⟨.s (.bool (((decide (s.lo ≥ low)) && (decide (s.lo ≤ s.hi))) && (decide (s.hi ≤ high)))), by kernel_rfl, fun nV w' h => ⟨by rw [show validF s low high = (((decide (s.lo ≥ low)) && (decide (s.lo ≤ s.hi))) && (decide (s.hi ≤ high))) from rfl]; rfl, h.bel⟩⟩
def containsF (s : Span) (n : Int) : Bool :=
  (insideF n s.lo s.hi)
theorem containsF_calls  (s : Span) (n : Int) (w : World)   : Calls Tryd.prog 31 #[.agg #[iv s.lo, iv s.hi], iv n] w fun e w' => e = .returned (.bool (containsF s n)) ∧ Below w.heap.size w w' := by
  refine calls_of_WP (cx := cx0 w Eng.n0 0) (n := Eng.n0) (vs := [.g [.int .i64 s.lo, .int .i64 s.hi], .s (.int .i64 n)]) (hp := []) (nx := 0) tt_ok Tryd.func31 rfl rfl rfl (by kernel_rfl) (HSat0 _ _ _ _ _ _ (fun _ => rfl) (Nat.le_refl _)) (vsOk (by kernel_rfl)) ?_
  refine WP_seq (WP_region (WPO_all tt_ok (by kernel_rfl) ?_))
  refine WP_seq (WP_region (WPO_run tt_ok 5 (by kernel_rfl) ?_))
  refine CALL 32 [.s (.int .i64 n), .s (.int .i64 s.lo), .s (.int .i64 s.hi)] (.s (.bool (insideF n s.lo s.hi))) [] (by kernel_rfl) (goes_of (by kernel_rfl)) (by kernel_rfl) (by kernel_rfl) (fun _ nV w h => insideF_calls  n s.lo s.hi w  ) ?_
  refine WPO_all tt_ok (by kernel_rfl) ?_
  refine WP_ret ?_
  exact ⟨.s (.bool (insideF n s.lo s.hi)), by kernel_rfl, fun nV w' h => ⟨by rw [show containsF s n = (insideF n s.lo s.hi) from rfl]; rfl, h.bel⟩⟩
def alikeF_c1 (l : List Int) (m : List Int) (k1 : Nat) : Unit → Bool := fun _ => decide ((k1 : Int) < (l.length : Int))
def alikeF_b1 (l : List Int) (m : List Int) (k1 : Nat) : Unit → Bd Unit Bool := fun _ => (bif (l.getD k1 0) != (m.getD k1 0) then .ret false else .go ())
def alikeF (l : List Int) (m : List Int) : Bool :=
  (bif (l.length : Int) != (m.length : Int) then false else (match loopR (alikeF_c1 l m) (alikeF_b1 l m) l.length 0 () with | .brk () => true | .ret r => r))
theorem alikeF_calls (g0 g1 : Value) (l : List Int) (m : List Int) (w : World) (r0 : Reads w g0 1 l encI 0) (r1 : Reads w g1 1 m encI 0)  : Calls Tryd.prog 65 #[g0, g1] w fun e w' => e = .returned (.bool (alikeF l m)) ∧ Below w.heap.size w w' := by
  refine calls_of_WP (cx := cx0 w (vn [g0, g1]) 2) (n := vn [g0, g1]) (vs := [.s (.ref 0), .s (.ref 1)]) (hp := [(0, .sl .ro 3 1 l encI 0), (1, .sl .ro 3 1 m encI 0)]) (nx := 2) tt_ok Tryd.func65 rfl rfl rfl (by kernel_rfl) (HSat_args (vn_one (by simp [r0.one, r1.one])) (Nat.le_refl _) ⟨⟨⟨fun _ => rfl, by decide, r0⟩, (Nat.le_of_ble_eq_true rfl)⟩, ⟨⟨fun _ => rfl, by decide, r1⟩, (Nat.le_of_ble_eq_true rfl)⟩, trivial⟩) (vsOk (by kernel_rfl)) ?_
  have hl0 := Reads.len r0
  have hl1 := Reads.len r1
  refine WP_seq (WP_region (WPO_all tt_ok (by kernel_rfl) ?_))
  refine WP_seq (WP_seq (WP_region (WPO_all tt_ok (by kernel_rfl) ?_)))
  refine WP_cond ((l.length : Int) != (m.length : Int)) (by kernel_rfl) (fun hc2 => ?_) (fun hc2 => ?_)
  · have hc2' := hc2; try simp only [Bool.and_eq_true, Bool.or_eq_true, Bool.and_eq_false_iff, Bool.or_eq_false_iff, Bool.not_eq_true', Bool.not_eq_false', decide_eq_true_eq, decide_eq_false_iff_not, beq_iff_eq, beq_eq_false_iff_ne, bne_iff_ne, bne_eq_false_iff_eq, ne_eq] at hc2'
    refine WP_seq (WP_region (WPO_all tt_ok (by kernel_rfl) ?_))
    refine WP_ret ?_
    exact ⟨.s (.bool false), by kernel_rfl, fun nV w' h => ⟨by rw [show alikeF l m = false from by unfold alikeF; simp only [hc2, cond_true, cond_false]]; rfl, h.bel⟩⟩
  have hc2' := hc2; try simp only [Bool.and_eq_true, Bool.or_eq_true, Bool.and_eq_false_iff, Bool.or_eq_false_iff, Bool.not_eq_true', Bool.not_eq_false', decide_eq_true_eq, decide_eq_false_iff_not, beq_iff_eq, beq_eq_false_iff_ne, bne_iff_ne, bne_eq_false_iff_eq, ne_eq] at hc2'
  refine WP_skip ?_
  refine WP_seq (WP_seq (WP_region (WPO_all tt_ok (by kernel_rfl) ?_)))
  refine WP_loopA (ρ := Bool) (alikeF_c1 l m) (alikeF_b1 l m) l.length () (fun k : Nat => (k : Int)) (fun (ci : Int) (zz : Unit) => ⟨26, [(5, [], .s (.int .i64 ci)), (0, [], .s (.ref 0)), (1, [], .s (.ref 1))], [(0, .sl .ro 3 1 l encI 0), (1, .sl .ro 3 1 m encI 0)], 2, []⟩) (fun zz : Unit => ⟨26, [], [(0, .sl .ro 3 1 l encI 0), (1, .sl .ro 3 1 m encI 0)], 2, []⟩) (fun k zz => True) trivial ⟨0, rfl, Le_sel (ts := [5, 0, 1]) (ids := [0, 1]) (nx := 2) (by kernel_rfl)⟩ ?_ ?_
  · intro k1 zz hn1 hp1 hi1 Q1 hq1 ho1
    refine WP_seq (WP_seq (WP_region (WPO_all tt_ok (by kernel_rfl) ?_)))
    refine WP_cond (decide ((k1 : Int) < (l.length : Int))) (by kernel_rfl) (fun hc3 => ?_) (fun hc3 => ?_)
    rotate_left
    · refine WP_exit ?_
      show Q1 (.exit 0) _
      exact LA_exit hq1 () (loopR_end hi1 hc3) ⟨k1, hn1, hp1⟩ (Le_sel (ts := []) (ids := [0, 1]) (nx := 2) (by kernel_rfl))
    have hc3' := of_decide_eq_true hc3
    have hk1 : k1 < l.length := by omega
    refine WP_skip ?_
    refine WP_seq (WP_block ?_)
    refine WP_seq (WP_draw (by kernel_rfl) (by kernel_rfl) ?_)
    refine WPQ_run tt_ok 2 (by kernel_rfl) ?_
    refine QIX tt_ok (k1 : Int) l.length [] (by kernel_rfl) (fun hG => ⟨by omega, by omega⟩) ?_
    refine WPQ_run tt_ok 3 (by kernel_rfl) ?_
    refine QIX tt_ok (k1 : Int) m.length [] (by kernel_rfl) (fun hG => ⟨by omega, by omega⟩) ?_
    refine WPQ_all tt_ok (by kernel_rfl) ?_
    refine WP_cond ((l.getD k1 0) != (m.getD k1 0)) (by kernel_rfl) (fun hc5 => ?_) (fun hc5 => ?_)
    · have hc5' := hc5; try simp only [Bool.and_eq_true, Bool.or_eq_true, Bool.and_eq_false_iff, Bool.or_eq_false_iff, Bool.not_eq_true', Bool.not_eq_false', decide_eq_true_eq, decide_eq_false_iff_not, beq_iff_eq, beq_eq_false_iff_ne, bne_iff_ne, bne_eq_false_iff_eq, ne_eq] at hc5'
      refine WP_seq (WP_region (WPO_all tt_ok (by kernel_rfl) ?_))
      refine WP_ret ?_
      show Q1 .ret _
      refine LA_ret hq1 ?_
      have he6 := loopR_ret (r := false) hi1 hk1 hc3 (by unfold alikeF_b1; simp only [hc5, cond_true, cond_false])
      exact ⟨.s (.bool false), by kernel_rfl, fun nV w' h => ⟨by rw [show alikeF l m = false from by unfold alikeF; simp only [hc2, he6, cond_true, cond_false]]; rfl, h.bel⟩⟩
    have hc5' := hc5; try simp only [Bool.and_eq_true, Bool.or_eq_true, Bool.and_eq_false_iff, Bool.or_eq_false_iff, Bool.not_eq_true', Bool.not_eq_false', decide_eq_true_eq, decide_eq_false_iff_not, beq_iff_eq, beq_eq_false_iff_ne, bne_iff_ne, bne_eq_false_iff_eq, ne_eq] at hc5'
    refine WP_skip ?_
    refine WP_region (WPO_all tt_ok (by kernel_rfl) ?_)
    show Q1 .normal _
    exact LA_go hq1 (ci := IntKind.i64.wrap ((k1 : Int) + 1)) () hk1 (by show _ = ((k1 + 1 : Nat) : Int); rw [wrapI (by omega) (by omega)]; omega) (loopR_go hi1 hk1 hc3 (by unfold alikeF_b1; simp only [hc5, cond_true, cond_false])) trivial (Le_sel (ts := [5, 0, 1]) (ids := [0, 1]) (nx := 2) (by kernel_rfl))
  intro zz hR1 hP1 s' hl
  refine WP_le hl ?_
  clear hl s'
  refine WP_seq (WP_region (WPO_all tt_ok (by kernel_rfl) ?_))
  refine WP_ret ?_
  exact ⟨.s (.bool true), by kernel_rfl, fun nV w' h => ⟨by rw [show alikeF l m = true from by unfold alikeF; simp only [hc2, hR1, cond_true, cond_false]]; rfl, h.bel⟩⟩
end Go.Proofs.YtamimgmoomcipaaDoor.Rf
namespace Go.Proofs.YtamimgmoomcipaaDoor.Rf
open Go Go.RowKit Go.Proofs.YtamimgmoomcipaaDoor.Eng Go.Proofs.YtamimgmoomcipaaDoor.Fw
set_option linter.unusedVariables false
set_option linter.unusedSimpArgs false
theorem mn_spec (x y : Int) : mn x y = min x y := by unfold mn; split <;> omega
theorem mx_spec (x y : Int) : mx x y = max x y := by unfold mx; split <;> omega
def beforeF_c1 (l : List Int) (m : List Int) (k1 : Nat) : Unit → Bool := fun _ => decide ((k1 : Int) < (mn (l.length : Int) (m.length : Int)))
def beforeF_b1 (l : List Int) (m : List Int) (k1 : Nat) : Unit → Bd Unit Bool := fun _ => (bif (l.getD k1 0) != (m.getD k1 0) then .ret (decide ((l.getD k1 0) < (m.getD k1 0))) else .go ())
def beforeF (l : List Int) (m : List Int) : Bool :=
  (match loopR (beforeF_c1 l m) (beforeF_b1 l m) l.length 0 () with | .brk () => decide ((l.length : Int) < (m.length : Int)) | .ret r => r)
theorem beforeF_calls (g0 g1 : Value) (l : List Int) (m : List Int) (w : World) (r0 : Reads w g0 1 l encI 0) (r1 : Reads w g1 1 m encI 0)  : Calls Tryd.prog 90 #[g0, g1] w fun e w' => e = .returned (.bool (beforeF l m)) ∧ Below w.heap.size w w' := by
  refine calls_of_WP (cx := cx0 w (vn [g0, g1]) 2) (n := vn [g0, g1]) (vs := [.s (.ref 0), .s (.ref 1)]) (hp := [(0, .sl .ro 3 1 l encI 0), (1, .sl .ro 3 1 m encI 0)]) (nx := 2) tt_ok Tryd.func90 rfl rfl rfl (by kernel_rfl) (HSat_args (vn_one (by simp [r0.one, r1.one])) (Nat.le_refl _) ⟨⟨⟨fun _ => rfl, by decide, r0⟩, (Nat.le_of_ble_eq_true rfl)⟩, ⟨⟨fun _ => rfl, by decide, r1⟩, (Nat.le_of_ble_eq_true rfl)⟩, trivial⟩) (vsOk (by kernel_rfl)) ?_
  have hl0 := Reads.len r0
  have hl1 := Reads.len r1
  refine WP_seq (WP_region (WPO_all tt_ok (by kernel_rfl) ?_))
  refine WP_seq (WP_seq (WP_region (WPO_all tt_ok (by kernel_rfl) ?_)))
  refine WP_loopA (ρ := Bool) (beforeF_c1 l m) (beforeF_b1 l m) l.length () (fun k : Nat => (k : Int)) (fun (ci : Int) (zz : Unit) => ⟨38, [(5, [], .s (.int .i64 ci)), (0, [], .s (.ref 0)), (1, [], .s (.ref 1))], [(0, .sl .ro 3 1 l encI 0), (1, .sl .ro 3 1 m encI 0)], 2, []⟩) (fun zz : Unit => ⟨38, [(0, [], .s (.ref 0)), (1, [], .s (.ref 1))], [(0, .sl .ro 3 1 l encI 0), (1, .sl .ro 3 1 m encI 0)], 2, []⟩) (fun k zz => True) trivial ⟨0, rfl, Le_sel (ts := [5, 0, 1]) (ids := [0, 1]) (nx := 2) (by kernel_rfl)⟩ ?_ ?_
  · intro k1 zz hn1 hp1 hi1 Q1 hq1 ho1
    refine WP_seq (WP_seq (WP_region (WPO_all tt_ok (by kernel_rfl) ?_)))
    refine WP_cond (decide ((k1 : Int) < (mn (l.length : Int) (m.length : Int)))) (by kernel_rfl) (fun hc1 => ?_) (fun hc1 => ?_)
    rotate_left
    · refine WP_exit ?_
      show Q1 (.exit 0) _
      exact LA_exit hq1 () (loopR_end hi1 hc1) ⟨k1, hn1, hp1⟩ (Le_sel (ts := [0, 1]) (ids := [0, 1]) (nx := 2) (by kernel_rfl))
    have hc1' := of_decide_eq_true hc1
    have hk1 : k1 < l.length := by rw [mn_spec] at hc1'; omega
    rw [mn_spec] at hc1'
    have hk1m : (k1 : Int) < m.length := by omega
    refine WP_skip ?_
    refine WP_seq (WP_block ?_)
    refine WP_seq (WP_draw (by kernel_rfl) (by kernel_rfl) ?_)
    refine WPQ_run tt_ok 2 (by kernel_rfl) ?_
    refine QIX tt_ok (k1 : Int) l.length [] (by kernel_rfl) (fun hG => ⟨by omega, by omega⟩) ?_
    refine WPQ_run tt_ok 3 (by kernel_rfl) ?_
    refine QIX tt_ok (k1 : Int) m.length [] (by kernel_rfl) (fun hG => ⟨by omega, by omega⟩) ?_
    refine WPQ_all tt_ok (by kernel_rfl) ?_
    refine WP_cond ((l.getD k1 0) != (m.getD k1 0)) (by kernel_rfl) (fun hc3 => ?_) (fun hc3 => ?_)
    · have hc3' := hc3; try simp only [Bool.and_eq_true, Bool.or_eq_true, Bool.and_eq_false_iff, Bool.or_eq_false_iff, Bool.not_eq_true', Bool.not_eq_false', decide_eq_true_eq, decide_eq_false_iff_not, beq_iff_eq, beq_eq_false_iff_ne, bne_iff_ne, bne_eq_false_iff_eq, ne_eq] at hc3'
      refine WP_seq (WP_draw (by kernel_rfl) (by kernel_rfl) ?_)
      refine WPQ_run tt_ok 2 (by kernel_rfl) ?_
      refine QIX tt_ok (k1 : Int) l.length [] (by kernel_rfl) (fun hG => ⟨by omega, by omega⟩) ?_
      refine WPQ_run tt_ok 3 (by kernel_rfl) ?_
      refine QIX tt_ok (k1 : Int) m.length [] (by kernel_rfl) (fun hG => ⟨by omega, by omega⟩) ?_
      refine WPQ_all tt_ok (by kernel_rfl) ?_
      refine WP_ret ?_
      show Q1 .ret _
      refine LA_ret hq1 ?_
      have he4 := loopR_ret (r := decide ((l.getD k1 0) < (m.getD k1 0))) hi1 hk1 hc1 (by unfold beforeF_b1; simp only [hc3, cond_true, cond_false])
      exact ⟨.s (.bool (decide ((l.getD k1 0) < (m.getD k1 0)))), by kernel_rfl, fun nV w' h => ⟨by rw [show beforeF l m = (decide ((l.getD k1 0) < (m.getD k1 0))) from by unfold beforeF; simp only [he4, cond_true, cond_false]]; rfl, h.bel⟩⟩
    have hc3' := hc3; try simp only [Bool.and_eq_true, Bool.or_eq_true, Bool.and_eq_false_iff, Bool.or_eq_false_iff, Bool.not_eq_true', Bool.not_eq_false', decide_eq_true_eq, decide_eq_false_iff_not, beq_iff_eq, beq_eq_false_iff_ne, bne_iff_ne, bne_eq_false_iff_eq, ne_eq] at hc3'
    refine WP_skip ?_
    refine WP_region (WPO_all tt_ok (by kernel_rfl) ?_)
    show Q1 .normal _
    exact LA_go hq1 (ci := IntKind.i64.wrap ((k1 : Int) + 1)) () hk1 (by show _ = ((k1 + 1 : Nat) : Int); rw [wrapI (by omega) (by omega)]; omega) (loopR_go hi1 hk1 hc1 (by unfold beforeF_b1; simp only [hc3, cond_true, cond_false])) trivial (Le_sel (ts := [5, 0, 1]) (ids := [0, 1]) (nx := 2) (by kernel_rfl))
  intro zz hR1 hP1 s' hl
  refine WP_le hl ?_
  clear hl s'
  refine WP_seq (WP_region (WPO_all tt_ok (by kernel_rfl) ?_))
  refine WP_ret ?_
  exact ⟨.s (.bool (decide ((l.length : Int) < (m.length : Int)))), by kernel_rfl, fun nV w' h => ⟨by rw [show beforeF l m = (decide ((l.length : Int) < (m.length : Int))) from by unfold beforeF; simp only [hR1, cond_true, cond_false]]; rfl, h.bel⟩⟩
def betterF (l : List Int) (m : List Int) : Bool :=
  (decide ((l.length : Int) < (m.length : Int))) || (((l.length : Int) == (m.length : Int)) && (beforeF l m))
theorem betterF_calls (g0 g1 : Value) (l : List Int) (m : List Int) (w : World) (r0 : Reads w g0 1 l encI 0) (r1 : Reads w g1 1 m encI 0)  : Calls Tryd.prog 50 #[g0, g1] w fun e w' => e = .returned (.bool (betterF l m)) ∧ Below w.heap.size w w' := by
  refine calls_of_WP (cx := cx0 w (vn [g0, g1]) 2) (n := vn [g0, g1]) (vs := [.s (.ref 0), .s (.ref 1)]) (hp := [(0, .sl .ro 3 1 l encI 0), (1, .sl .ro 3 1 m encI 0)]) (nx := 2) tt_ok Tryd.func50 rfl rfl rfl (by kernel_rfl) (HSat_args (vn_one (by simp [r0.one, r1.one])) (Nat.le_refl _) ⟨⟨⟨fun _ => rfl, by decide, r0⟩, (Nat.le_of_ble_eq_true rfl)⟩, ⟨⟨fun _ => rfl, by decide, r1⟩, (Nat.le_of_ble_eq_true rfl)⟩, trivial⟩) (vsOk (by kernel_rfl)) ?_
  have hl0 := Reads.len r0
  have hl1 := Reads.len r1
  refine WP_seq (WP_region (WPO_all tt_ok (by kernel_rfl) ?_))
  refine WP_seq (WP_region (WPO_run tt_ok 14 (by kernel_rfl) ?_))
  refine CALL 90 [.s (.ref 0), .s (.ref 1)] (.s (.bool (beforeF l m))) [((l.length : Int) == (m.length : Int), true), (decide ((l.length : Int) < (m.length : Int)), false)] (by kernel_rfl) (goes_of (by kernel_rfl)) (by kernel_rfl) (by kernel_rfl) (fun _ nV w h => beforeF_calls (nV 0) (nV 1) l m w (h.reads (id := 0) (kd := .ro) (e := 3) (by kernel_rfl)) (h.reads (id := 1) (kd := .ro) (e := 3) (by kernel_rfl)) ) ?_
  refine WPO_all tt_ok (by kernel_rfl) ?_
  refine WP_ret ?_
  exact ⟨.s (.bool ((decide ((l.length : Int) < (m.length : Int))) || (((l.length : Int) == (m.length : Int)) && (beforeF l m)))), by kernel_rfl, fun nV w' h => ⟨by rw [show betterF l m = ((decide ((l.length : Int) < (m.length : Int))) || (((l.length : Int) == (m.length : Int)) && (beforeF l m))) from rfl]; rfl, h.bel⟩⟩
def memberF (set : Int) (n : Int) : Bool :=
  (IntKind.i64.wrap (BitVec.ofInt IntKind.i64.bits (Int.fdiv set (2 ^ (min n.toNat IntKind.i64.bits))) &&& BitVec.ofInt IntKind.i64.bits 1).toNat) == 1
theorem memberF_calls  (set : Int) (n : Int) (w : World)  (hn : 0 ≤ n) : Calls Tryd.prog 89 #[iv set, iv n] w fun e w' => e = .returned (.bool (memberF set n)) ∧ Below w.heap.size w w' := by
  refine calls_of_WP (cx := cx0 w Eng.n0 0) (n := Eng.n0) (vs := [.s (.int .i64 set), .s (.int .i64 n)]) (hp := []) (nx := 0) tt_ok Tryd.func89 rfl rfl rfl (by kernel_rfl) (HSat0 _ _ _ _ _ _ (fun _ => rfl) (Nat.le_refl _)) (vsOk (by kernel_rfl)) ?_
  refine WP_seq (WP_region (WPO_all tt_ok (by kernel_rfl) ?_))
  refine WP_seq (WP_region (WPO_run tt_ok 2 (by kernel_rfl) ?_))
  refine BIN .shr 3 (.tmp 5) (.tmp 6) (.s (.int .i64 set)) (.s (.int .i64 n)) (.s (.int .i64 (Int.fdiv set (2 ^ (min n.toNat IntKind.i64.bits))))) [] (by kernel_rfl) (by kernel_rfl) (by kernel_rfl) (fun _ => BinOk_shr (by omega)) ?_
  refine WPO_all tt_ok (by kernel_rfl) ?_
  refine WP_ret ?_
  exact ⟨.s (.bool ((IntKind.i64.wrap (BitVec.ofInt IntKind.i64.bits (Int.fdiv set (2 ^ (min n.toNat IntKind.i64.bits))) &&& BitVec.ofInt IntKind.i64.bits 1).toNat) == 1)), by kernel_rfl, fun nV w' h => ⟨by rw [show memberF set n = ((IntKind.i64.wrap (BitVec.ofInt IntKind.i64.bits (Int.fdiv set (2 ^ (min n.toNat IntKind.i64.bits))) &&& BitVec.ofInt IntKind.i64.bits 1).toNat) == 1) from rfl]; rfl, h.bel⟩⟩
def membersF_c1 (set : Int) (below : Int) (k1 : Nat) : (List Int) → Bool := fun v1_1 => decide ((k1 : Int) < below)
def membersF_b1 (set : Int) (below : Int) (k1 : Nat) : (List Int) → Bd (List Int) (List Int) := fun v1_1 => (bif (memberF set (k1 : Int)) then .go (v1_1 ++ ([(k1 : Int)])) else .go v1_1)
def membersF (set : Int) (below : Int) : (List Int) :=
  (match loopR (membersF_c1 set below) (membersF_b1 set below) (below : Int).toNat 0 ([]) with | .brk u1_0 => u1_0 | .ret r => r)
theorem membersF_calls  (set : Int) (below : Int) (w : World)  (hn : below ≤ 64) : Calls Tryd.prog 48 #[iv set, iv below] w fun e w' => ∃ v0, e = .returned (v0) ∧ Below w.heap.size w w' ∧ w'.ownsRow w.heap.size 3 1 v0 (membersF set below).length (flat (membersF set below) encI) := by
  refine calls_of_WP (cx := cx0 w Eng.n0 0) (n := Eng.n0) (vs := [.s (.int .i64 set), .s (.int .i64 below)]) (hp := []) (nx := 0) tt_ok Tryd.func48 rfl rfl rfl (by kernel_rfl) (HSat0 _ _ _ _ _ _ (fun _ => rfl) (Nat.le_refl _)) (vsOk (by kernel_rfl)) ?_
  refine WP_seq (WP_region (WPO_all tt_ok (by kernel_rfl) ?_))
  refine WP_seq (WP_region (LIT tt_ok (by kernel_rfl) ?_))
  refine LITSL 0 3 0 1 [] ([] : List Int) encI 0 (by kernel_rfl) rfl (fun _ => rfl) (fun n => rfl) ?_
  refine WPO_all tt_ok (by kernel_rfl) ?_
  refine WP_seq (WP_seq (WP_region (WPO_all tt_ok (by kernel_rfl) ?_)))
  refine WP_loopA (ρ := (List Int)) (membersF_c1 set below) (membersF_b1 set below) (below : Int).toNat ([]) (fun k : Nat => (k : Int)) (fun (ci : Int) (zz : (List Int)) => ⟨21, [(6, [], .s (.int .i64 ci)), (5, [], .s (.ref 1)), (0, [], .s (.int .i64 set)), (1, [], .s (.int .i64 below))], [(1, .sl .own 3 1 zz encI 0)], 2, []⟩) (fun zz : (List Int) => ⟨21, [(5, [], .s (.ref 1))], [(1, .sl .own 3 1 zz encI 0)], 2, []⟩) (fun (k1 : Nat) (zz : (List Int)) => zz.length ≤ k1) (by simp) ⟨0, rfl, Le_ren [(1, 0)] ⟨by kernel_rfl, trivial⟩ ⟨by kernel_rfl, rfl, by kernel_rfl, by kernel_rfl, rfl, by kernel_rfl, by kernel_rfl, rfl, by kernel_rfl, by kernel_rfl, rfl, by kernel_rfl, trivial⟩ (by kernel_rfl) (by kernel_rfl) (rnm_id (m := 0) (by kernel_rfl)) (by show 0 ≤ 2; decide) (by kernel_rfl) (by kernel_rfl)⟩ ?_ ?_
  · intro k1 v1_1 hn1 hp1 hi1 Q1 hq1 ho1
    replace hp1 : v1_1.length ≤ k1 := hp1
    refine WP_seq (WP_seq (WP_region (WPO_all tt_ok (by kernel_rfl) ?_)))
    refine WP_cond (decide ((k1 : Int) < below)) (by kernel_rfl) (fun hc1 => ?_) (fun hc1 => ?_)
    rotate_left
    · refine WP_exit ?_
      show Q1 (.exit 0) _
      exact LA_exit hq1 v1_1 (loopR_end hi1 hc1) ⟨k1, hn1, hp1⟩ (Le_sel (ts := [5]) (ids := [1]) (nx := 2) (by kernel_rfl))
    have hc1' := of_decide_eq_true hc1
    have hk1 : k1 < (below : Int).toNat := by omega
    refine WP_skip ?_
    refine WP_seq (WP_block ?_)
    refine WP_seq (WP_region (WPO_run tt_ok 2 (by kernel_rfl) ?_))
    refine CALL 89 [.s (.int .i64 set), .s (.int .i64 (k1 : Int))] (.s (.bool (memberF set (k1 : Int)))) [] (by kernel_rfl) (goes_of (by kernel_rfl)) (by kernel_rfl) (by kernel_rfl) (fun _ nV w h => memberF_calls  set (k1 : Int) w  (by first | assumption | omega)) ?_
    refine WPO_nil ?_
    refine WP_cond ((memberF set (k1 : Int))) (by kernel_rfl) (fun hc3 => ?_) (fun hc3 => ?_)
    · refine WP_region (WPO_run tt_ok 2 (by kernel_rfl) ?_)
      refine LIT tt_ok (by kernel_rfl) ?_
      refine LITSL 2 3 1 1 [.int .i64 (k1 : Int)] [(k1 : Int)] encI 0 (by kernel_rfl) rfl (fun _ => rfl) (fun n => rfl) ?_
      refine APP tt_ok (.s (.ref 1)) (.s (.ref 2)) 37 3 (some 19) 1 v1_1 ([(k1 : Int)]) encI 0 (by kernel_rfl) (by kernel_rfl) (by kernel_rfl) (by kernel_rfl) (.inr (.inl ⟨1, rfl, (by kernel_rfl)⟩)) (.inr ⟨2, .own, rfl, (by kernel_rfl), (by simp only [List.length_cons, List.length_nil]; omega)⟩) (by simp) (fun y => rfl) (fun y => List.all_eq_true.1 rfl) (fun i hi => (by have hby : (tyL tt 3).map (·.bytes) = some 8 := (by kernel_rfl); rw [hi] at hby; simp only [Option.map_some, Option.some.injEq] at hby; rw [hby]; simp only [List.length_append, List.length_cons, List.length_nil]; omega)) ?_
      refine WPO_all tt_ok (by kernel_rfl) ?_
      refine WP_region (WPO_all tt_ok (by kernel_rfl) ?_)
      show Q1 .normal _
      exact LA_go hq1 (ci := IntKind.i64.wrap ((k1 : Int) + 1)) (v1_1 ++ ([(k1 : Int)])) hk1 (by show _ = ((k1 + 1 : Nat) : Int); rw [wrapI (by omega) (by omega)]; omega) (loopR_go hi1 hk1 hc1 (by unfold membersF_b1; simp only [hc3, cond_true, cond_false])) (by simp only [List.length_append, List.length_cons, List.length_nil]; omega) (Le_ren [(1, 3)] ⟨by kernel_rfl, trivial⟩ ⟨by kernel_rfl, rfl, by kernel_rfl, by kernel_rfl, rfl, by kernel_rfl, by kernel_rfl, rfl, by kernel_rfl, by kernel_rfl, rfl, by kernel_rfl, trivial⟩ (by kernel_rfl) (by kernel_rfl) (rnm_id (m := 0) (by kernel_rfl)) (by show 0 ≤ 2; decide) (by kernel_rfl) (by kernel_rfl))
    refine WP_skip ?_
    refine WP_region (WPO_all tt_ok (by kernel_rfl) ?_)
    show Q1 .normal _
    exact LA_go hq1 (ci := IntKind.i64.wrap ((k1 : Int) + 1)) v1_1 hk1 (by show _ = ((k1 + 1 : Nat) : Int); rw [wrapI (by omega) (by omega)]; omega) (loopR_go hi1 hk1 hc1 (by unfold membersF_b1; simp only [hc3, cond_true, cond_false])) (by omega) (Le_sel (ts := [6, 5, 0, 1]) (ids := [1]) (nx := 2) (by kernel_rfl))
  intro u1_0 hR1 hP1 s' hl
  obtain ⟨kP1, hkP1, hpP1⟩ := hP1
  replace hpP1 : u1_0.length ≤ kP1 := hpP1
  refine WP_le hl ?_
  clear hl s'
  refine WP_seq (WP_region (WPO_all tt_ok (by kernel_rfl) ?_))
  refine WP_ret ?_
  exact ⟨.s (.ref 1), by kernel_rfl, fun nV w' h => ⟨nV 1, rfl, h.bel, by rw [show membersF set below = u1_0 from by unfold membersF; simp only [hR1, cond_true, cond_false]]; exact own_of (z := 0) h (by kernel_rfl)⟩⟩
def keptShipsF_c1 (a : List Ship) (b : List Ship) (k1 : Nat) : Bool → Bool := fun v1_1 => v1_1 && (decide ((k1 : Int) < (a.length : Int)))
def keptShipsF_b1 (a : List Ship) (b : List Ship) (k1 : Nat) : Bool → Bd Bool Bool := fun v1_1 => .go ([(a.getD k1 zShip).m, (a.getD k1 zShip).aw.lo, (a.getD k1 zShip).aw.hi, (a.getD k1 zShip).sp.lo, (a.getD k1 zShip).sp.hi] == [(b.getD k1 zShip).m, (b.getD k1 zShip).aw.lo, (b.getD k1 zShip).aw.hi, (b.getD k1 zShip).sp.lo, (b.getD k1 zShip).sp.hi])
def keptShipsF (a : List Ship) (b : List Ship) : Bool :=
  (match loopR (keptShipsF_c1 a b) (keptShipsF_b1 a b) a.length 0 ((a.length : Int) == (b.length : Int)) with | .brk u1_0 => u1_0 | .ret r => r)
theorem keptShipsF_calls (g0 g1 : Value) (a : List Ship) (b : List Ship) (w : World) (r0 : Reads w g0 5 a encShip zShip) (r1 : Reads w g1 5 b encShip zShip)  : Calls Tryd.prog 63 #[g0, g1] w fun e w' => e = .returned (.bool (keptShipsF a b)) ∧ Below w.heap.size w w' := by
  refine calls_of_WP (cx := cx0 w (vn [g0, g1]) 2) (n := vn [g0, g1]) (vs := [.s (.ref 0), .s (.ref 1)]) (hp := [(0, .sl .ro 65 5 a encShip zShip), (1, .sl .ro 65 5 b encShip zShip)]) (nx := 2) tt_ok Tryd.func63 rfl rfl rfl (by kernel_rfl) (HSat_args (vn_one (by simp [r0.one, r1.one])) (Nat.le_refl _) ⟨⟨⟨fun _ => rfl, by decide, r0⟩, (Nat.le_of_ble_eq_true rfl)⟩, ⟨⟨fun _ => rfl, by decide, r1⟩, (Nat.le_of_ble_eq_true rfl)⟩, trivial⟩) (vsOk (by kernel_rfl)) ?_
  have hl0 := Reads.len r0
  have hl1 := Reads.len r1
  refine WP_seq (WP_region (WPO_all tt_ok (by kernel_rfl) ?_))
  refine WP_seq (WP_region (WPO_all tt_ok (by kernel_rfl) ?_))
  refine WP_seq (WP_seq (WP_region (WPO_all tt_ok (by kernel_rfl) ?_)))
  refine WP_loopA (ρ := Bool) (keptShipsF_c1 a b) (keptShipsF_b1 a b) a.length ((a.length : Int) == (b.length : Int)) (fun k : Nat => (k : Int)) (fun (ci : Int) (zz : Bool) => ⟨31, [(6, [], .s (.int .i64 ci)), (5, [], .s (.bool zz)), (0, [], .s (.ref 0)), (1, [], .s (.ref 1))], [(0, .sl .ro 65 5 a encShip zShip), (1, .sl .ro 65 5 b encShip zShip)], 2, []⟩) (fun zz : Bool => ⟨31, [(5, [], .s (.bool zz))], [(0, .sl .ro 65 5 a encShip zShip), (1, .sl .ro 65 5 b encShip zShip)], 2, []⟩) (fun (k1 : Nat) (zz : Bool) => zz = true → a.length = b.length) (fun h => by have := eq_of_beq h; omega) ⟨0, rfl, Le_sel (ts := [6, 5, 0, 1]) (ids := [0, 1]) (nx := 2) (by kernel_rfl)⟩ ?_ ?_
  · intro k1 v1_1 hn1 hp1 hi1 Q1 hq1 ho1
    replace hp1 : v1_1 = true → a.length = b.length := hp1
    refine WP_seq (WP_seq (WP_region (WPO_all tt_ok (by kernel_rfl) ?_)))
    refine WP_cond (v1_1 && (decide ((k1 : Int) < (a.length : Int)))) (by kernel_rfl) (fun hc1 => ?_) (fun hc1 => ?_)
    rotate_left
    · refine WP_exit ?_
      show Q1 (.exit 0) _
      exact LA_exit hq1 v1_1 (loopR_end hi1 hc1) ⟨k1, hn1, hp1⟩ (Le_sel (ts := [5]) (ids := [0, 1]) (nx := 2) (by kernel_rfl))
    have hc1' := hc1; try simp only [Bool.and_eq_true, Bool.or_eq_true, Bool.and_eq_false_iff, Bool.or_eq_false_iff, Bool.not_eq_true', Bool.not_eq_false', decide_eq_true_eq, decide_eq_false_iff_not, beq_iff_eq, beq_eq_false_iff_ne, bne_iff_ne, bne_eq_false_iff_eq, ne_eq] at hc1'
    have hk1 : k1 < a.length := by omega
    have hab := hp1 hc1'.1
    refine WP_skip ?_
    refine WP_seq (WP_block ?_)
    refine WP_draw (by kernel_rfl) (by kernel_rfl) ?_
    refine WPQ_run tt_ok 2 (by kernel_rfl) ?_
    refine QIX tt_ok (k1 : Int) a.length [] (by kernel_rfl) (fun hG => ⟨by omega, by omega⟩) ?_
    refine WPQ_run tt_ok 3 (by kernel_rfl) ?_
    refine QIX tt_ok (k1 : Int) b.length [] (by kernel_rfl) (fun hG => ⟨by omega, by omega⟩) ?_
    refine WPQ_run tt_ok 1 (by kernel_rfl) ?_
    refine QBIN .eql 65 (.tmp 24) (.tmp 28) (.g [.int .i64 (a.getD k1 zShip).m, .int .i64 (a.getD k1 zShip).aw.lo, .int .i64 (a.getD k1 zShip).aw.hi, .int .i64 (a.getD k1 zShip).sp.lo, .int .i64 (a.getD k1 zShip).sp.hi]) (.g [.int .i64 (b.getD k1 zShip).m, .int .i64 (b.getD k1 zShip).aw.lo, .int .i64 (b.getD k1 zShip).aw.hi, .int .i64 (b.getD k1 zShip).sp.lo, .int .i64 (b.getD k1 zShip).sp.hi]) (.s (.bool ([(a.getD k1 zShip).m, (a.getD k1 zShip).aw.lo, (a.getD k1 zShip).aw.hi, (a.getD k1 zShip).sp.lo, (a.getD k1 zShip).sp.hi] == [(b.getD k1 zShip).m, (b.getD k1 zShip).aw.lo, (b.getD k1 zShip).aw.hi, (b.getD k1 zShip).sp.lo, (b.getD k1 zShip).sp.hi]))) [] (by kernel_rfl) (by kernel_rfl) (by kernel_rfl) (fun _ => (BinOk_st (n := 5) (by kernel_rfl) [(a.getD k1 zShip).m, (a.getD k1 zShip).aw.lo, (a.getD k1 zShip).aw.hi, (a.getD k1 zShip).sp.lo, (a.getD k1 zShip).sp.hi] [(b.getD k1 zShip).m, (b.getD k1 zShip).aw.lo, (b.getD k1 zShip).aw.hi, (b.getD k1 zShip).sp.lo, (b.getD k1 zShip).sp.hi] rfl rfl).1) ?_
    refine WPQ_all tt_ok (by kernel_rfl) ?_
    refine WP_region (WPO_all tt_ok (by kernel_rfl) ?_)
    show Q1 .normal _
    exact LA_go hq1 (ci := IntKind.i64.wrap ((k1 : Int) + 1)) ([(a.getD k1 zShip).m, (a.getD k1 zShip).aw.lo, (a.getD k1 zShip).aw.hi, (a.getD k1 zShip).sp.lo, (a.getD k1 zShip).sp.hi] == [(b.getD k1 zShip).m, (b.getD k1 zShip).aw.lo, (b.getD k1 zShip).aw.hi, (b.getD k1 zShip).sp.lo, (b.getD k1 zShip).sp.hi]) hk1 (by show _ = ((k1 + 1 : Nat) : Int); rw [wrapI (by omega) (by omega)]; omega) (loopR_go hi1 hk1 hc1 (rfl)) (fun _ => hp1 hc1'.1) (Le_sel (ts := [6, 5, 0, 1]) (ids := [0, 1]) (nx := 2) (by kernel_rfl))
  intro u1_0 hR1 hP1 s' hl
  obtain ⟨kP1, hkP1, hpP1⟩ := hP1
  replace hpP1 : u1_0 = true → a.length = b.length := hpP1
  refine WP_le hl ?_
  clear hl s'
  refine WP_seq (WP_region (WPO_all tt_ok (by kernel_rfl) ?_))
  refine WP_ret ?_
  exact ⟨.s (.bool u1_0), by kernel_rfl, fun nV w' h => ⟨by rw [show keptShipsF a b = u1_0 from by unfold keptShipsF; simp only [hR1, cond_true, cond_false]]; rfl, h.bel⟩⟩
def keptSightsF_c1 (a : List Sight) (b : List Sight) (k1 : Nat) : Bool → Bool := fun v1_1 => v1_1 && (decide ((k1 : Int) < (a.length : Int)))
def keptSightsF_b1 (a : List Sight) (b : List Sight) (k1 : Nat) : Bool → Bd Bool Bool := fun v1_1 => .go ([(a.getD k1 zSight).ship, (a.getD k1 zSight).m, (a.getD k1 zSight).aw.lo, (a.getD k1 zSight).aw.hi] == [(b.getD k1 zSight).ship, (b.getD k1 zSight).m, (b.getD k1 zSight).aw.lo, (b.getD k1 zSight).aw.hi])
def keptSightsF (a : List Sight) (b : List Sight) : Bool :=
  (match loopR (keptSightsF_c1 a b) (keptSightsF_b1 a b) a.length 0 ((a.length : Int) == (b.length : Int)) with | .brk u1_0 => u1_0 | .ret r => r)
theorem keptSightsF_calls (g0 g1 : Value) (a : List Sight) (b : List Sight) (w : World) (r0 : Reads w g0 4 a encSight zSight) (r1 : Reads w g1 4 b encSight zSight)  : Calls Tryd.prog 64 #[g0, g1] w fun e w' => e = .returned (.bool (keptSightsF a b)) ∧ Below w.heap.size w w' := by
  refine calls_of_WP (cx := cx0 w (vn [g0, g1]) 2) (n := vn [g0, g1]) (vs := [.s (.ref 0), .s (.ref 1)]) (hp := [(0, .sl .ro 70 4 a encSight zSight), (1, .sl .ro 70 4 b encSight zSight)]) (nx := 2) tt_ok Tryd.func64 rfl rfl rfl (by kernel_rfl) (HSat_args (vn_one (by simp [r0.one, r1.one])) (Nat.le_refl _) ⟨⟨⟨fun _ => rfl, by decide, r0⟩, (Nat.le_of_ble_eq_true rfl)⟩, ⟨⟨fun _ => rfl, by decide, r1⟩, (Nat.le_of_ble_eq_true rfl)⟩, trivial⟩) (vsOk (by kernel_rfl)) ?_
  have hl0 := Reads.len r0
  have hl1 := Reads.len r1
  refine WP_seq (WP_region (WPO_all tt_ok (by kernel_rfl) ?_))
  refine WP_seq (WP_region (WPO_all tt_ok (by kernel_rfl) ?_))
  refine WP_seq (WP_seq (WP_region (WPO_all tt_ok (by kernel_rfl) ?_)))
  refine WP_loopA (ρ := Bool) (keptSightsF_c1 a b) (keptSightsF_b1 a b) a.length ((a.length : Int) == (b.length : Int)) (fun k : Nat => (k : Int)) (fun (ci : Int) (zz : Bool) => ⟨31, [(6, [], .s (.int .i64 ci)), (5, [], .s (.bool zz)), (0, [], .s (.ref 0)), (1, [], .s (.ref 1))], [(0, .sl .ro 70 4 a encSight zSight), (1, .sl .ro 70 4 b encSight zSight)], 2, []⟩) (fun zz : Bool => ⟨31, [(5, [], .s (.bool zz))], [(0, .sl .ro 70 4 a encSight zSight), (1, .sl .ro 70 4 b encSight zSight)], 2, []⟩) (fun (k1 : Nat) (zz : Bool) => zz = true → a.length = b.length) (fun h => by have := eq_of_beq h; omega) ⟨0, rfl, Le_sel (ts := [6, 5, 0, 1]) (ids := [0, 1]) (nx := 2) (by kernel_rfl)⟩ ?_ ?_
  · intro k1 v1_1 hn1 hp1 hi1 Q1 hq1 ho1
    replace hp1 : v1_1 = true → a.length = b.length := hp1
    refine WP_seq (WP_seq (WP_region (WPO_all tt_ok (by kernel_rfl) ?_)))
    refine WP_cond (v1_1 && (decide ((k1 : Int) < (a.length : Int)))) (by kernel_rfl) (fun hc1 => ?_) (fun hc1 => ?_)
    rotate_left
    · refine WP_exit ?_
      show Q1 (.exit 0) _
      exact LA_exit hq1 v1_1 (loopR_end hi1 hc1) ⟨k1, hn1, hp1⟩ (Le_sel (ts := [5]) (ids := [0, 1]) (nx := 2) (by kernel_rfl))
    have hc1' := hc1; try simp only [Bool.and_eq_true, Bool.or_eq_true, Bool.and_eq_false_iff, Bool.or_eq_false_iff, Bool.not_eq_true', Bool.not_eq_false', decide_eq_true_eq, decide_eq_false_iff_not, beq_iff_eq, beq_eq_false_iff_ne, bne_iff_ne, bne_eq_false_iff_eq, ne_eq] at hc1'
    have hk1 : k1 < a.length := by omega
    have hab := hp1 hc1'.1
    refine WP_skip ?_
    refine WP_seq (WP_block ?_)
    refine WP_draw (by kernel_rfl) (by kernel_rfl) ?_
    refine WPQ_run tt_ok 2 (by kernel_rfl) ?_
    refine QIX tt_ok (k1 : Int) a.length [] (by kernel_rfl) (fun hG => ⟨by omega, by omega⟩) ?_
    refine WPQ_run tt_ok 3 (by kernel_rfl) ?_
    refine QIX tt_ok (k1 : Int) b.length [] (by kernel_rfl) (fun hG => ⟨by omega, by omega⟩) ?_
    refine WPQ_run tt_ok 1 (by kernel_rfl) ?_
    refine QBIN .eql 70 (.tmp 24) (.tmp 28) (.g [.int .i64 (a.getD k1 zSight).ship, .int .i64 (a.getD k1 zSight).m, .int .i64 (a.getD k1 zSight).aw.lo, .int .i64 (a.getD k1 zSight).aw.hi]) (.g [.int .i64 (b.getD k1 zSight).ship, .int .i64 (b.getD k1 zSight).m, .int .i64 (b.getD k1 zSight).aw.lo, .int .i64 (b.getD k1 zSight).aw.hi]) (.s (.bool ([(a.getD k1 zSight).ship, (a.getD k1 zSight).m, (a.getD k1 zSight).aw.lo, (a.getD k1 zSight).aw.hi] == [(b.getD k1 zSight).ship, (b.getD k1 zSight).m, (b.getD k1 zSight).aw.lo, (b.getD k1 zSight).aw.hi]))) [] (by kernel_rfl) (by kernel_rfl) (by kernel_rfl) (fun _ => (BinOk_st (n := 4) (by kernel_rfl) [(a.getD k1 zSight).ship, (a.getD k1 zSight).m, (a.getD k1 zSight).aw.lo, (a.getD k1 zSight).aw.hi] [(b.getD k1 zSight).ship, (b.getD k1 zSight).m, (b.getD k1 zSight).aw.lo, (b.getD k1 zSight).aw.hi] rfl rfl).1) ?_
    refine WPQ_all tt_ok (by kernel_rfl) ?_
    refine WP_region (WPO_all tt_ok (by kernel_rfl) ?_)
    show Q1 .normal _
    exact LA_go hq1 (ci := IntKind.i64.wrap ((k1 : Int) + 1)) ([(a.getD k1 zSight).ship, (a.getD k1 zSight).m, (a.getD k1 zSight).aw.lo, (a.getD k1 zSight).aw.hi] == [(b.getD k1 zSight).ship, (b.getD k1 zSight).m, (b.getD k1 zSight).aw.lo, (b.getD k1 zSight).aw.hi]) hk1 (by show _ = ((k1 + 1 : Nat) : Int); rw [wrapI (by omega) (by omega)]; omega) (loopR_go hi1 hk1 hc1 (rfl)) (fun _ => hp1 hc1'.1) (Le_sel (ts := [6, 5, 0, 1]) (ids := [0, 1]) (nx := 2) (by kernel_rfl))
  intro u1_0 hR1 hP1 s' hl
  obtain ⟨kP1, hkP1, hpP1⟩ := hP1
  replace hpP1 : u1_0 = true → a.length = b.length := hpP1
  refine WP_le hl ?_
  clear hl s'
  refine WP_seq (WP_region (WPO_all tt_ok (by kernel_rfl) ?_))
  refine WP_ret ?_
  exact ⟨.s (.bool u1_0), by kernel_rfl, fun nV w' h => ⟨by rw [show keptSightsF a b = u1_0 from by unfold keptSightsF; simp only [hR1, cond_true, cond_false]]; rfl, h.bel⟩⟩
end Go.Proofs.YtamimgmoomcipaaDoor.Rf
namespace Go.Proofs.YtamimgmoomcipaaDoor.Rf
open Go Go.RowKit Go.Proofs.YtamimgmoomcipaaDoor.Eng Go.Proofs.YtamimgmoomcipaaDoor.Fw
set_option linter.unusedVariables false
set_option linter.unusedSimpArgs false
structure Crs where (aw sp : Int)
def zCrs : Crs := ⟨0, 0⟩
def encCrs (c : Crs) : List Value := [iv c.aw, iv c.sp]
def isShipR (b : Book) (x : Int) : Bool :=
  (insideF x 0 (IntKind.i64.wrap ((b.ships.length : Int) - 1)))
theorem isShipR_calls (g0 g1 : Value) (b : Book) (x : Int) (w : World) (r0 : Reads w g0 5 b.ships encShip zShip) (r1 : Reads w g1 4 b.sights encSight zSight)  : Calls Tryd.prog 93 #[.agg #[g0, iv b.hear.lo, iv b.hear.hi, iv b.br, iv b.cr, iv b.sl, g1], iv x] w fun e w' => e = .returned (.bool (isShipR b x)) ∧ Below w.heap.size w w' := by
  refine calls_of_WP (cx := cx0 w (vn [g0, g1]) 2) (n := vn [g0, g1]) (vs := [.g [.ref 0, .int .i64 b.hear.lo, .int .i64 b.hear.hi, .int .i64 b.br, .int .i64 b.cr, .int .i64 b.sl, .ref 1], .s (.int .i64 x)]) (hp := [(0, .sl .ro 65 5 b.ships encShip zShip), (1, .sl .ro 70 4 b.sights encSight zSight)]) (nx := 2) tt_ok Tryd.func93 rfl rfl rfl (by kernel_rfl) (HSat_args (vn_one (by simp [r0.one, r1.one])) (Nat.le_refl _) ⟨⟨⟨fun _ => rfl, by decide, r0⟩, (Nat.le_of_ble_eq_true rfl)⟩, ⟨⟨fun _ => rfl, by decide, r1⟩, (Nat.le_of_ble_eq_true rfl)⟩, trivial⟩) (vsOk (by kernel_rfl)) ?_
  have hl0 := Reads.len r0
  have hl1 := Reads.len r1
  refine WP_seq (WP_region (WPO_all tt_ok (by kernel_rfl) ?_))
  refine WP_seq (WP_region (WPO_run tt_ok 5 (by kernel_rfl) ?_))
  refine CALL 32 [.s (.int .i64 x), .s (.int .i64 0), .s (.int .i64 (IntKind.i64.wrap ((b.ships.length : Int) - 1)))] (.s (.bool (insideF x 0 (IntKind.i64.wrap ((b.ships.length : Int) - 1))))) [] (by kernel_rfl) (goes_of (by kernel_rfl)) (by kernel_rfl) (by kernel_rfl) (fun _ nV w h => insideF_calls  x 0 (IntKind.i64.wrap ((b.ships.length : Int) - 1)) w  ) ?_
  refine WPO_all tt_ok (by kernel_rfl) ?_
  refine WP_ret ?_
  exact ⟨.s (.bool (insideF x 0 (IntKind.i64.wrap ((b.ships.length : Int) - 1)))), by kernel_rfl, fun nV w' h => ⟨by rw [show isShipR b x = (insideF x 0 (IntKind.i64.wrap ((b.ships.length : Int) - 1))) from rfl]; rfl, h.bel⟩⟩
def farR (s : Span) (least : Int) (wide : Int) : Bool :=
  (validF s least 120) && (decide ((IntKind.i64.wrap (s.hi - s.lo)) ≤ wide))
theorem farR_calls  (s : Span) (least : Int) (wide : Int) (w : World)   : Calls Tryd.prog 92 #[.agg #[iv s.lo, iv s.hi], iv least, iv wide] w fun e w' => e = .returned (.bool (farR s least wide)) ∧ Below w.heap.size w w' := by
  refine calls_of_WP (cx := cx0 w Eng.n0 0) (n := Eng.n0) (vs := [.g [.int .i64 s.lo, .int .i64 s.hi], .s (.int .i64 least), .s (.int .i64 wide)]) (hp := []) (nx := 0) tt_ok Tryd.func92 rfl rfl rfl (by kernel_rfl) (HSat0 _ _ _ _ _ _ (fun _ => rfl) (Nat.le_refl _)) (vsOk (by kernel_rfl)) ?_
  refine WP_seq (WP_region (WPO_all tt_ok (by kernel_rfl) ?_))
  refine WP_seq (WP_region (WPO_run tt_ok 2 (by kernel_rfl) ?_))
  refine CALL 39 [.g [.int .i64 s.lo, .int .i64 s.hi], .s (.int .i64 least), .s (.int .i64 120)] (.s (.bool (validF s least 120))) [] (by kernel_rfl) (goes_of (by kernel_rfl)) (by kernel_rfl) (by kernel_rfl) (fun _ nV w h => validF_calls  s least 120 w  ) ?_
  refine WPO_all tt_ok (by kernel_rfl) ?_
  refine WP_ret ?_
  exact ⟨.s (.bool ((validF s least 120) && (decide ((IntKind.i64.wrap (s.hi - s.lo)) ≤ wide)))), by kernel_rfl, fun nV w' h => ⟨by rw [show farR s least wide = ((validF s least 120) && (decide ((IntKind.i64.wrap (s.hi - s.lo)) ≤ wide))) from rfl]; rfl, h.bel⟩⟩
theorem isShipR_iff {b : Book} {x : Int} (h : (b.ships.length : Int) ≤ 9223372036854775807) : isShipR b x = true ↔ 0 ≤ x ∧ x < b.ships.length := by
  unfold isShipR insideF
  rw [wrapI (by omega) (by omega)]
  simp only [Bool.and_eq_true, decide_eq_true_eq]
  omega
def checkR_c1 (b : Book) (k1 : Nat) : Bool → Bool := fun v1_1 => v1_1 && (decide ((k1 : Int) < (b.ships.length : Int)))
def checkR_b1 (b : Book) (k1 : Nat) : Bool → Bd Bool Int := fun v1_1 => .go ((((insideF (b.ships.getD k1 zShip).m 0 60) && (farR (b.ships.getD k1 zShip).aw 1 6)) && (validF (b.ships.getD k1 zShip).sp 1 12)) && (decide ((IntKind.i64.wrap ((b.ships.getD k1 zShip).sp.hi - (b.ships.getD k1 zShip).sp.lo)) ≤ 2)))
def checkR_c2 (b : Book) (u1_0 : Bool) (k2 : Nat) : Bool → Bool := fun v2_1 => v2_1 && (decide ((k2 : Int) < (b.sights.length : Int)))
def checkR_b2 (b : Book) (u1_0 : Bool) (k2 : Nat) : Bool → Bd Bool Int := fun v2_1 => .go (((isShipR b (b.sights.getD k2 zSight).ship) && (farR (b.sights.getD k2 zSight).aw 0 6)) && (insideF (b.sights.getD k2 zSight).m (b.ships.getD (b.sights.getD k2 zSight).ship.toNat zShip).m 200))
def checkR (b : Book) : Int :=
  (match loopR (checkR_c1 b) (checkR_b1 b) b.ships.length 0 ((((((decide ((b.ships.length : Int) ≤ 4)) && (farR b.hear 1 10)) && (insideF b.br 0 10)) && (insideF b.cr 1 20)) && (insideF b.sl 0 15)) && (decide ((b.sights.length : Int) ≤ 5))) with | .brk u1_0 => (match loopR (checkR_c2 b u1_0) (checkR_b2 b u1_0) b.sights.length 0 u1_0 with | .brk u2_0 => (bif !u2_0 then 40 else 0) | .ret r => r) | .ret r => r)
theorem checkR_calls (g0 g1 : Value) (b : Book) (w : World) (r0 : Reads w g0 5 b.ships encShip zShip) (r1 : Reads w g1 4 b.sights encSight zSight)  : Calls Tryd.prog 59 #[.agg #[g0, iv b.hear.lo, iv b.hear.hi, iv b.br, iv b.cr, iv b.sl, g1]] w fun e w' => e = .returned (iv (checkR b)) ∧ Below w.heap.size w w' := by
  refine calls_of_WP (cx := cx0 w (vn [g0, g1]) 2) (n := vn [g0, g1]) (vs := [.g [.ref 0, .int .i64 b.hear.lo, .int .i64 b.hear.hi, .int .i64 b.br, .int .i64 b.cr, .int .i64 b.sl, .ref 1]]) (hp := [(0, .sl .ro 65 5 b.ships encShip zShip), (1, .sl .ro 70 4 b.sights encSight zSight)]) (nx := 2) tt_ok Tryd.func59 rfl rfl rfl (by kernel_rfl) (HSat_args (vn_one (by simp [r0.one, r1.one])) (Nat.le_refl _) ⟨⟨⟨fun _ => rfl, by decide, r0⟩, (Nat.le_of_ble_eq_true rfl)⟩, ⟨⟨fun _ => rfl, by decide, r1⟩, (Nat.le_of_ble_eq_true rfl)⟩, trivial⟩) (vsOk (by kernel_rfl)) ?_
  have hl0 := Reads.len r0
  have hl1 := Reads.len r1
  refine WP_seq (WP_region (WPO_all tt_ok (by kernel_rfl) ?_))
  refine WP_seq (WP_region (WPO_run tt_ok 7 (by kernel_rfl) ?_))
  refine CALL 92 [.g [.int .i64 b.hear.lo, .int .i64 b.hear.hi], .s (.int .i64 1), .s (.int .i64 10)] (.s (.bool (farR b.hear 1 10))) [(decide ((b.ships.length : Int) ≤ 4), true)] (by kernel_rfl) (goes_of (by kernel_rfl)) (by kernel_rfl) (by kernel_rfl) (fun _ nV w h => farR_calls  b.hear 1 10 w  ) ?_
  refine WPO_run tt_ok 4 (by kernel_rfl) ?_
  refine CALL 32 [.s (.int .i64 b.br), .s (.int .i64 0), .s (.int .i64 10)] (.s (.bool (insideF b.br 0 10))) [((decide ((b.ships.length : Int) ≤ 4)) && (farR b.hear 1 10), true)] (by kernel_rfl) (goes_of (by kernel_rfl)) (by kernel_rfl) (by kernel_rfl) (fun _ nV w h => insideF_calls  b.br 0 10 w  ) ?_
  refine WPO_run tt_ok 4 (by kernel_rfl) ?_
  refine CALL 32 [.s (.int .i64 b.cr), .s (.int .i64 1), .s (.int .i64 20)] (.s (.bool (insideF b.cr 1 20))) [(((decide ((b.ships.length : Int) ≤ 4)) && (farR b.hear 1 10)) && (insideF b.br 0 10), true)] (by kernel_rfl) (goes_of (by kernel_rfl)) (by kernel_rfl) (by kernel_rfl) (fun _ nV w h => insideF_calls  b.cr 1 20 w  ) ?_
  refine WPO_run tt_ok 4 (by kernel_rfl) ?_
  refine CALL 32 [.s (.int .i64 b.sl), .s (.int .i64 0), .s (.int .i64 15)] (.s (.bool (insideF b.sl 0 15))) [((((decide ((b.ships.length : Int) ≤ 4)) && (farR b.hear 1 10)) && (insideF b.br 0 10)) && (insideF b.cr 1 20), true)] (by kernel_rfl) (goes_of (by kernel_rfl)) (by kernel_rfl) (by kernel_rfl) (fun _ nV w h => insideF_calls  b.sl 0 15 w  ) ?_
  refine WPO_all tt_ok (by kernel_rfl) ?_
  refine WP_seq (WP_seq (WP_region (WPO_all tt_ok (by kernel_rfl) ?_)))
  refine WP_loopA (ρ := Int) (checkR_c1 b) (checkR_b1 b) b.ships.length ((((((decide ((b.ships.length : Int) ≤ 4)) && (farR b.hear 1 10)) && (insideF b.br 0 10)) && (insideF b.cr 1 20)) && (insideF b.sl 0 15)) && (decide ((b.sights.length : Int) ≤ 5))) (fun k : Nat => (k : Int)) (fun (ci : Int) (zz : Bool) => ⟨115, [(4, [], .s (.int .i64 ci)), (3, [], .s (.bool zz)), (1, [], .s (.p 2 0))], [(2, .box 27 [.ref 0, .int .i64 b.hear.lo, .int .i64 b.hear.hi, .int .i64 b.br, .int .i64 b.cr, .int .i64 b.sl, .ref 1]), (0, .sl .ro 65 5 b.ships encShip zShip), (1, .sl .ro 70 4 b.sights encSight zSight)], 3, []⟩) (fun zz : Bool => ⟨115, [(3, [], .s (.bool zz)), (1, [], .s (.p 2 0))], [(2, .box 27 [.ref 0, .int .i64 b.hear.lo, .int .i64 b.hear.hi, .int .i64 b.br, .int .i64 b.cr, .int .i64 b.sl, .ref 1]), (0, .sl .ro 65 5 b.ships encShip zShip), (1, .sl .ro 70 4 b.sights encSight zSight)], 3, []⟩) (fun k zz => True) trivial ⟨0, rfl, Le_sel (ts := [4, 3, 1]) (ids := [2, 0, 1]) (nx := 3) (by kernel_rfl)⟩ ?_ ?_
  · intro k1 v1_1 hn1 hp1 hi1 Q1 hq1 ho1
    refine WP_seq (WP_seq (WP_region (WPO_all tt_ok (by kernel_rfl) ?_)))
    refine WP_cond (v1_1 && (decide ((k1 : Int) < (b.ships.length : Int)))) (by kernel_rfl) (fun hc1 => ?_) (fun hc1 => ?_)
    rotate_left
    · refine WP_exit ?_
      show Q1 (.exit 0) _
      exact LA_exit hq1 v1_1 (loopR_end hi1 hc1) ⟨k1, hn1, hp1⟩ (Le_sel (ts := [3, 1]) (ids := [2, 0, 1]) (nx := 3) (by kernel_rfl))
    have hc1' := hc1; try simp only [Bool.and_eq_true, Bool.or_eq_true, Bool.and_eq_false_iff, Bool.or_eq_false_iff, Bool.not_eq_true', Bool.not_eq_false', decide_eq_true_eq, decide_eq_false_iff_not, beq_iff_eq, beq_eq_false_iff_ne, bne_iff_ne, bne_eq_false_iff_eq, ne_eq] at hc1'
    have hk1 : k1 < b.ships.length := by omega
    refine WP_skip ?_
    refine WP_seq (WP_block ?_)
    refine WP_seq (WP_region (WPO_run tt_ok 3 (by kernel_rfl) ?_))
    refine IX tt_ok (k1 : Int) b.ships.length [] (by kernel_rfl) (fun hG => ⟨by omega, by omega⟩) ?_
    refine WPO_all tt_ok (by kernel_rfl) ?_
    refine WP_region (WPO_run tt_ok 2 (by kernel_rfl) ?_)
    refine CALL 32 [.s (.int .i64 (b.ships.getD k1 zShip).m), .s (.int .i64 0), .s (.int .i64 60)] (.s (.bool (insideF (b.ships.getD k1 zShip).m 0 60))) [] (by kernel_rfl) (goes_of (by kernel_rfl)) (by kernel_rfl) (by kernel_rfl) (fun _ nV w h => insideF_calls  (b.ships.getD k1 zShip).m 0 60 w  ) ?_
    refine WPO_run tt_ok 3 (by kernel_rfl) ?_
    refine CALL 92 [.g [.int .i64 (b.ships.getD k1 zShip).aw.lo, .int .i64 (b.ships.getD k1 zShip).aw.hi], .s (.int .i64 1), .s (.int .i64 6)] (.s (.bool (farR (b.ships.getD k1 zShip).aw 1 6))) [((insideF (b.ships.getD k1 zShip).m 0 60), true)] (by kernel_rfl) (goes_of (by kernel_rfl)) (by kernel_rfl) (by kernel_rfl) (fun _ nV w h => farR_calls  (b.ships.getD k1 zShip).aw 1 6 w  ) ?_
    refine WPO_run tt_ok 4 (by kernel_rfl) ?_
    refine CALL 39 [.g [.int .i64 (b.ships.getD k1 zShip).sp.lo, .int .i64 (b.ships.getD k1 zShip).sp.hi], .s (.int .i64 1), .s (.int .i64 12)] (.s (.bool (validF (b.ships.getD k1 zShip).sp 1 12))) [((insideF (b.ships.getD k1 zShip).m 0 60) && (farR (b.ships.getD k1 zShip).aw 1 6), true)] (by kernel_rfl) (goes_of (by kernel_rfl)) (by kernel_rfl) (by kernel_rfl) (fun _ nV w h => validF_calls  (b.ships.getD k1 zShip).sp 1 12 w  ) ?_
    refine WPO_all tt_ok (by kernel_rfl) ?_
    refine WP_region (WPO_all tt_ok (by kernel_rfl) ?_)
    show Q1 .normal _
    exact LA_go hq1 (ci := IntKind.i64.wrap ((k1 : Int) + 1)) ((((insideF (b.ships.getD k1 zShip).m 0 60) && (farR (b.ships.getD k1 zShip).aw 1 6)) && (validF (b.ships.getD k1 zShip).sp 1 12)) && (decide ((IntKind.i64.wrap ((b.ships.getD k1 zShip).sp.hi - (b.ships.getD k1 zShip).sp.lo)) ≤ 2))) hk1 (by show _ = ((k1 + 1 : Nat) : Int); rw [wrapI (by omega) (by omega)]; omega) (loopR_go hi1 hk1 hc1 (rfl)) trivial (Le_sel (ts := [4, 3, 1]) (ids := [2, 0, 1]) (nx := 3) (by kernel_rfl))
  intro u1_0 hR1 hP1 s' hl
  refine WP_le hl ?_
  clear hl s'
  refine WP_seq (WP_seq (WP_region (WPO_all tt_ok (by kernel_rfl) ?_)))
  refine WP_loopA (ρ := Int) (checkR_c2 b u1_0) (checkR_b2 b u1_0) b.sights.length u1_0 (fun k : Nat => (k : Int)) (fun (ci : Int) (zz : Bool) => ⟨115, [(6, [], .s (.int .i64 ci)), (3, [], .s (.bool zz)), (1, [], .s (.p 2 0))], [(2, .box 27 [.ref 0, .int .i64 b.hear.lo, .int .i64 b.hear.hi, .int .i64 b.br, .int .i64 b.cr, .int .i64 b.sl, .ref 1]), (0, .sl .ro 65 5 b.ships encShip zShip), (1, .sl .ro 70 4 b.sights encSight zSight)], 3, []⟩) (fun zz : Bool => ⟨115, [(3, [], .s (.bool zz))], [(2, .box 27 [.ref 0, .int .i64 b.hear.lo, .int .i64 b.hear.hi, .int .i64 b.br, .int .i64 b.cr, .int .i64 b.sl, .ref 1]), (0, .sl .ro 65 5 b.ships encShip zShip), (1, .sl .ro 70 4 b.sights encSight zSight)], 3, []⟩) (fun k zz => True) trivial ⟨0, rfl, Le_sel (ts := [6, 3, 1]) (ids := [2, 0, 1]) (nx := 3) (by kernel_rfl)⟩ ?_ ?_
  · intro k2 v2_1 hn2 hp2 hi2 Q2 hq2 ho2
    refine WP_seq (WP_seq (WP_region (WPO_all tt_ok (by kernel_rfl) ?_)))
    refine WP_cond (v2_1 && (decide ((k2 : Int) < (b.sights.length : Int)))) (by kernel_rfl) (fun hc2 => ?_) (fun hc2 => ?_)
    rotate_left
    · refine WP_exit ?_
      show Q2 (.exit 2) _
      exact LA_exit hq2 v2_1 (loopR_end hi2 hc2) ⟨k2, hn2, hp2⟩ (Le_sel (ts := [3]) (ids := [2, 0, 1]) (nx := 3) (by kernel_rfl))
    have hc2' := hc2; try simp only [Bool.and_eq_true, Bool.or_eq_true, Bool.and_eq_false_iff, Bool.or_eq_false_iff, Bool.not_eq_true', Bool.not_eq_false', decide_eq_true_eq, decide_eq_false_iff_not, beq_iff_eq, beq_eq_false_iff_ne, bne_iff_ne, bne_eq_false_iff_eq, ne_eq] at hc2'
    have hk2 : k2 < b.sights.length := by omega
    refine WP_skip ?_
    refine WP_seq (WP_block ?_)
    refine WP_seq (WP_region (WPO_run tt_ok 3 (by kernel_rfl) ?_))
    refine IX tt_ok (k2 : Int) b.sights.length [] (by kernel_rfl) (fun hG => ⟨by omega, by omega⟩) ?_
    refine WPO_all tt_ok (by kernel_rfl) ?_
    refine WP_seq (WP_region (WPO_run tt_ok 3 (by kernel_rfl) ?_))
    refine CALL 93 [.g [.ref 0, .int .i64 b.hear.lo, .int .i64 b.hear.hi, .int .i64 b.br, .int .i64 b.cr, .int .i64 b.sl, .ref 1], .s (.int .i64 (b.sights.getD k2 zSight).ship)] (.s (.bool (isShipR b (b.sights.getD k2 zSight).ship))) [] (by kernel_rfl) (goes_of (by kernel_rfl)) (by kernel_rfl) (by kernel_rfl) (fun _ nV w h => isShipR_calls (nV 0) (nV 1) b (b.sights.getD k2 zSight).ship w (h.reads (id := 0) (kd := .ro) (e := 65) (by kernel_rfl)) (h.reads (id := 1) (kd := .ro) (e := 70) (by kernel_rfl)) ) ?_
    refine WPO_run tt_ok 3 (by kernel_rfl) ?_
    refine CALL 92 [.g [.int .i64 (b.sights.getD k2 zSight).aw.lo, .int .i64 (b.sights.getD k2 zSight).aw.hi], .s (.int .i64 0), .s (.int .i64 6)] (.s (.bool (farR (b.sights.getD k2 zSight).aw 0 6))) [((isShipR b (b.sights.getD k2 zSight).ship), true)] (by kernel_rfl) (goes_of (by kernel_rfl)) (by kernel_rfl) (by kernel_rfl) (fun _ nV w h => farR_calls  (b.sights.getD k2 zSight).aw 0 6 w  ) ?_
    refine WPO_all tt_ok (by kernel_rfl) ?_
    refine WP_draw (by kernel_rfl) (by kernel_rfl) ?_
    refine WPQ_run tt_ok 8 (by kernel_rfl) ?_
    refine QIX tt_ok (b.sights.getD k2 zSight).ship b.ships.length [((isShipR b (b.sights.getD k2 zSight).ship) && (farR (b.sights.getD k2 zSight).aw 0 6), true)] (by kernel_rfl) (fun hG => (by obtain ⟨hG, _⟩ := hG; rw [Bool.and_eq_true] at hG; exact (isShipR_iff hl0).1 hG.1)) ?_
    refine WPQ_run tt_ok 2 (by kernel_rfl) ?_
    refine QCALL 32 [.s (.int .i64 (b.sights.getD k2 zSight).m), .s (.int .i64 (b.ships.getD (b.sights.getD k2 zSight).ship.toNat zShip).m), .s (.int .i64 200)] (.s (.bool (insideF (b.sights.getD k2 zSight).m (b.ships.getD (b.sights.getD k2 zSight).ship.toNat zShip).m 200))) [((isShipR b (b.sights.getD k2 zSight).ship) && (farR (b.sights.getD k2 zSight).aw 0 6), true)] (by kernel_rfl) (goes_of (by kernel_rfl)) (by kernel_rfl) (by kernel_rfl) (fun _ nV w h => insideF_calls  (b.sights.getD k2 zSight).m (b.ships.getD (b.sights.getD k2 zSight).ship.toNat zShip).m 200 w  ) ?_
    refine WPQ_all tt_ok (by kernel_rfl) ?_
    refine WP_region (WPO_all tt_ok (by kernel_rfl) ?_)
    show Q2 .normal _
    exact LA_go hq2 (ci := IntKind.i64.wrap ((k2 : Int) + 1)) (((isShipR b (b.sights.getD k2 zSight).ship) && (farR (b.sights.getD k2 zSight).aw 0 6)) && (insideF (b.sights.getD k2 zSight).m (b.ships.getD (b.sights.getD k2 zSight).ship.toNat zShip).m 200)) hk2 (by show _ = ((k2 + 1 : Nat) : Int); rw [wrapI (by omega) (by omega)]; omega) (loopR_go hi2 hk2 hc2 (rfl)) trivial (Le_sel (ts := [6, 3, 1]) (ids := [2, 0, 1]) (nx := 3) (by kernel_rfl))
  intro u2_0 hR2 hP2 s' hl
  refine WP_le hl ?_
  clear hl s'
  refine WP_seq (WP_seq (WP_region (WPO_all tt_ok (by kernel_rfl) ?_)))
  refine WP_cond (!u2_0) (by kernel_rfl) (fun hc4 => ?_) (fun hc4 => ?_)
  · have hc4' := hc4; try simp only [Bool.and_eq_true, Bool.or_eq_true, Bool.and_eq_false_iff, Bool.or_eq_false_iff, Bool.not_eq_true', Bool.not_eq_false', decide_eq_true_eq, decide_eq_false_iff_not, beq_iff_eq, beq_eq_false_iff_ne, bne_iff_ne, bne_eq_false_iff_eq, ne_eq] at hc4'
    refine WP_seq (WP_region (WPO_all tt_ok (by kernel_rfl) ?_))
    refine WP_ret ?_
    exact ⟨.s (.int .i64 40), by kernel_rfl, fun nV w' h => ⟨by rw [show checkR b = 40 from by unfold checkR; simp only [hR1, hR2, hc4, cond_true, cond_false]]; rfl, h.bel⟩⟩
  have hc4' := hc4; try simp only [Bool.and_eq_true, Bool.or_eq_true, Bool.and_eq_false_iff, Bool.or_eq_false_iff, Bool.not_eq_true', Bool.not_eq_false', decide_eq_true_eq, decide_eq_false_iff_not, beq_iff_eq, beq_eq_false_iff_ne, bne_iff_ne, bne_eq_false_iff_eq, ne_eq] at hc4'
  refine WP_skip ?_
  refine WP_seq (WP_region (WPO_all tt_ok (by kernel_rfl) ?_))
  refine WP_ret ?_
  exact ⟨.s (.int .i64 0), by kernel_rfl, fun nV w' h => ⟨by rw [show checkR b = 0 from by unfold checkR; simp only [hR1, hR2, hc4, cond_true, cond_false]]; rfl, h.bel⟩⟩
def distR (b : Book) (ship : Int) (c : Crs) (minute : Int) : Int :=
  mx (IntKind.i64.wrap (c.aw - (IntKind.i64.wrap (c.sp * (IntKind.i64.wrap (minute - (b.ships.getD ship.toNat zShip).m)))))) (IntKind.i64.wrap (0 - (IntKind.i64.wrap (c.aw - (IntKind.i64.wrap (c.sp * (IntKind.i64.wrap (minute - (b.ships.getD ship.toNat zShip).m))))))))
theorem distR_calls (g0 g1 : Value) (b : Book) (ship : Int) (c : Crs) (minute : Int) (w : World) (r0 : Reads w g0 5 b.ships encShip zShip) (r1 : Reads w g1 4 b.sights encSight zSight) (hs : 0 ≤ ship ∧ ship < b.ships.length) : Calls Tryd.prog 111 #[.agg #[g0, iv b.hear.lo, iv b.hear.hi, iv b.br, iv b.cr, iv b.sl, g1], iv ship, .agg #[iv c.aw, iv c.sp], iv minute] w fun e w' => e = .returned (iv (distR b ship c minute)) ∧ Below w.heap.size w w' := by
  refine calls_of_WP (cx := cx0 w (vn [g0, g1]) 2) (n := vn [g0, g1]) (vs := [.g [.ref 0, .int .i64 b.hear.lo, .int .i64 b.hear.hi, .int .i64 b.br, .int .i64 b.cr, .int .i64 b.sl, .ref 1], .s (.int .i64 ship), .g [.int .i64 c.aw, .int .i64 c.sp], .s (.int .i64 minute)]) (hp := [(0, .sl .ro 65 5 b.ships encShip zShip), (1, .sl .ro 70 4 b.sights encSight zSight)]) (nx := 2) tt_ok Tryd.func111 rfl rfl rfl (by kernel_rfl) (HSat_args (vn_one (by simp [r0.one, r1.one])) (Nat.le_refl _) ⟨⟨⟨fun _ => rfl, by decide, r0⟩, (Nat.le_of_ble_eq_true rfl)⟩, ⟨⟨fun _ => rfl, by decide, r1⟩, (Nat.le_of_ble_eq_true rfl)⟩, trivial⟩) (vsOk (by kernel_rfl)) ?_
  have hl0 := Reads.len r0
  have hl1 := Reads.len r1
  refine WP_seq (WP_region (WPO_all tt_ok (by kernel_rfl) ?_))
  refine WP_seq (WP_draw (by kernel_rfl) (by kernel_rfl) ?_)
  refine WPQ_run tt_ok 8 (by kernel_rfl) ?_
  refine QIX tt_ok ship b.ships.length [] (by kernel_rfl) (fun hG => ⟨by omega, by omega⟩) ?_
  refine WPQ_all tt_ok (by kernel_rfl) ?_
  refine WP_seq (WP_region (WPO_all tt_ok (by kernel_rfl) ?_))
  refine WP_ret ?_
  exact ⟨.s (.int .i64 (mx (IntKind.i64.wrap (c.aw - (IntKind.i64.wrap (c.sp * (IntKind.i64.wrap (minute - (b.ships.getD ship.toNat zShip).m)))))) (IntKind.i64.wrap (0 - (IntKind.i64.wrap (c.aw - (IntKind.i64.wrap (c.sp * (IntKind.i64.wrap (minute - (b.ships.getD ship.toNat zShip).m)))))))))), by kernel_rfl, fun nV w' h => ⟨by rw [show distR b ship c minute = (mx (IntKind.i64.wrap (c.aw - (IntKind.i64.wrap (c.sp * (IntKind.i64.wrap (minute - (b.ships.getD ship.toNat zShip).m)))))) (IntKind.i64.wrap (0 - (IntKind.i64.wrap (c.aw - (IntKind.i64.wrap (c.sp * (IntKind.i64.wrap (minute - (b.ships.getD ship.toNat zShip).m))))))))) from rfl]; rfl, h.bel⟩⟩
def nearR (b : Book) (ship : Int) (c : Crs) (minute : Int) : Bool :=
  (decide (minute ≥ (b.ships.getD ship.toNat zShip).m)) && (decide ((distR b ship c minute) ≤ b.br))
theorem nearR_calls (g0 g1 : Value) (b : Book) (ship : Int) (c : Crs) (minute : Int) (w : World) (r0 : Reads w g0 5 b.ships encShip zShip) (r1 : Reads w g1 4 b.sights encSight zSight) (hs : 0 ≤ ship ∧ ship < b.ships.length) : Calls Tryd.prog 96 #[.agg #[g0, iv b.hear.lo, iv b.hear.hi, iv b.br, iv b.cr, iv b.sl, g1], iv ship, .agg #[iv c.aw, iv c.sp], iv minute] w fun e w' => e = .returned (.bool (nearR b ship c minute)) ∧ Below w.heap.size w w' := by
  refine calls_of_WP (cx := cx0 w (vn [g0, g1]) 2) (n := vn [g0, g1]) (vs := [.g [.ref 0, .int .i64 b.hear.lo, .int .i64 b.hear.hi, .int .i64 b.br, .int .i64 b.cr, .int .i64 b.sl, .ref 1], .s (.int .i64 ship), .g [.int .i64 c.aw, .int .i64 c.sp], .s (.int .i64 minute)]) (hp := [(0, .sl .ro 65 5 b.ships encShip zShip), (1, .sl .ro 70 4 b.sights encSight zSight)]) (nx := 2) tt_ok Tryd.func96 rfl rfl rfl (by kernel_rfl) (HSat_args (vn_one (by simp [r0.one, r1.one])) (Nat.le_refl _) ⟨⟨⟨fun _ => rfl, by decide, r0⟩, (Nat.le_of_ble_eq_true rfl)⟩, ⟨⟨fun _ => rfl, by decide, r1⟩, (Nat.le_of_ble_eq_true rfl)⟩, trivial⟩) (vsOk (by kernel_rfl)) ?_
  have hl0 := Reads.len r0
  have hl1 := Reads.len r1
  refine WP_seq (WP_region (WPO_all tt_ok (by kernel_rfl) ?_))
  refine WP_seq (WP_draw (by kernel_rfl) (by kernel_rfl) ?_)
  refine WPQ_run tt_ok 4 (by kernel_rfl) ?_
  refine QIX tt_ok ship b.ships.length [] (by kernel_rfl) (fun hG => ⟨by omega, by omega⟩) ?_
  refine WPQ_run tt_ok 8 (by kernel_rfl) ?_
  refine QCALL 111 [.g [.ref 0, .int .i64 b.hear.lo, .int .i64 b.hear.hi, .int .i64 b.br, .int .i64 b.cr, .int .i64 b.sl, .ref 1], .s (.int .i64 ship), .g [.int .i64 c.aw, .int .i64 c.sp], .s (.int .i64 minute)] (.s (.int .i64 (distR b ship c minute))) [(decide (minute ≥ (b.ships.getD ship.toNat zShip).m), true)] (by kernel_rfl) (goes_of (by kernel_rfl)) (by kernel_rfl) (by kernel_rfl) (fun _ nV w h => distR_calls (nV 0) (nV 1) b ship c minute w (h.reads (id := 0) (kd := .ro) (e := 65) (by kernel_rfl)) (h.reads (id := 1) (kd := .ro) (e := 70) (by kernel_rfl)) (by first | assumption | omega)) ?_
  refine WPQ_all tt_ok (by kernel_rfl) ?_
  refine WP_ret ?_
  exact ⟨.s (.bool ((decide (minute ≥ (b.ships.getD ship.toNat zShip).m)) && (decide ((distR b ship c minute) ≤ b.br)))), by kernel_rfl, fun nV w' h => ⟨by rw [show nearR b ship c minute = ((decide (minute ≥ (b.ships.getD ship.toNat zShip).m)) && (decide ((distR b ship c minute) ≤ b.br))) from rfl]; rfl, h.bel⟩⟩
def coursesR_c3 (b : Book) (ship : Int) (hear : Int) (k1 : Nat) (v1_1 : List Crs) (k2 : Nat) (v2_1 : List Crs) (k3 : Nat) : Bool → Bool := fun v3_1 => decide ((k3 : Int) < (b.sights.length : Int))
def coursesR_b3 (b : Book) (ship : Int) (hear : Int) (k1 : Nat) (v1_1 : List Crs) (k2 : Nat) (v2_1 : List Crs) (k3 : Nat) : Bool → Bd Bool (List Crs) := fun v3_1 => .go (v3_1 && (((b.sights.getD k3 zSight).ship != ship) || (containsF (b.sights.getD k3 zSight).aw (distR b ship (⟨((b.ships.getD ship.toNat zShip).aw.lo + (k1 : Int)), ((b.ships.getD ship.toNat zShip).sp.lo + (k2 : Int))⟩ : Crs) (b.sights.getD k3 zSight).m))))
def coursesR_c2 (b : Book) (ship : Int) (hear : Int) (k1 : Nat) (v1_1 : List Crs) (k2 : Nat) : (List Crs) → Bool := fun v2_1 => decide (((b.ships.getD ship.toNat zShip).sp.lo + (k2 : Int)) ≤ (b.ships.getD ship.toNat zShip).sp.hi)
def coursesR_b2 (b : Book) (ship : Int) (hear : Int) (k1 : Nat) (v1_1 : List Crs) (k2 : Nat) : (List Crs) → Bd (List Crs) (List Crs) := fun v2_1 => (match loopR (coursesR_c3 b ship hear k1 v1_1 k2 v2_1) (coursesR_b3 b ship hear k1 v1_1 k2 v2_1) b.sights.length 0 true with | .brk u3_0 => (bif u3_0 then .go (v2_1 ++ ([(⟨((b.ships.getD ship.toNat zShip).aw.lo + (k1 : Int)), ((b.ships.getD ship.toNat zShip).sp.lo + (k2 : Int))⟩ : Crs)])) else .go v2_1) | .ret r => .ret r)
def coursesR_c1 (b : Book) (ship : Int) (hear : Int) (k1 : Nat) : (List Crs) → Bool := fun v1_1 => decide (((b.ships.getD ship.toNat zShip).aw.lo + (k1 : Int)) ≤ (mn (b.ships.getD ship.toNat zShip).aw.hi hear))
def coursesR_b1 (b : Book) (ship : Int) (hear : Int) (k1 : Nat) : (List Crs) → Bd (List Crs) (List Crs) := fun v1_1 => (match loopR (coursesR_c2 b ship hear k1 v1_1) (coursesR_b2 b ship hear k1 v1_1) ((b.ships.getD ship.toNat zShip).sp.hi - (b.ships.getD ship.toNat zShip).sp.lo + 1 : Int).toNat 0 v1_1 with | .brk u2_0 => .go u2_0 | .ret r => .ret r)
def coursesR (b : Book) (ship : Int) (hear : Int) : (List Crs) :=
  (match loopR (coursesR_c1 b ship hear) (coursesR_b1 b ship hear) ((mn (b.ships.getD ship.toNat zShip).aw.hi hear) - (b.ships.getD ship.toNat zShip).aw.lo + 1 : Int).toNat 0 ([]) with | .brk u1_0 => u1_0 | .ret r => r)
theorem coursesR_calls (g0 g1 : Value) (b : Book) (ship : Int) (hear : Int) (w : World) (r0 : Reads w g0 5 b.ships encShip zShip) (r1 : Reads w g1 4 b.sights encSight zSight) (hs : 0 ≤ ship ∧ ship < b.ships.length) (hv : Valid b) : Calls Tryd.prog 110 #[.agg #[g0, iv b.hear.lo, iv b.hear.hi, iv b.br, iv b.cr, iv b.sl, g1], iv ship, iv hear] w fun e w' => ∃ v0, e = .returned (v0) ∧ Below w.heap.size w w' ∧ w'.ownsRow w.heap.size 124 2 v0 (coursesR b ship hear).length (flat (coursesR b ship hear) encCrs) := by
  refine calls_of_WP (cx := cx0 w (vn [g0, g1]) 2) (n := vn [g0, g1]) (vs := [.g [.ref 0, .int .i64 b.hear.lo, .int .i64 b.hear.hi, .int .i64 b.br, .int .i64 b.cr, .int .i64 b.sl, .ref 1], .s (.int .i64 ship), .s (.int .i64 hear)]) (hp := [(0, .sl .ro 65 5 b.ships encShip zShip), (1, .sl .ro 70 4 b.sights encSight zSight)]) (nx := 2) tt_ok Tryd.func110 rfl rfl rfl (by kernel_rfl) (HSat_args (vn_one (by simp [r0.one, r1.one])) (Nat.le_refl _) ⟨⟨⟨fun _ => rfl, by decide, r0⟩, (Nat.le_of_ble_eq_true rfl)⟩, ⟨⟨fun _ => rfl, by decide, r1⟩, (Nat.le_of_ble_eq_true rfl)⟩, trivial⟩) (vsOk (by kernel_rfl)) ?_
  have hl0 := Reads.len r0
  have hl1 := Reads.len r1
  have hsh := hv.ship (k := ship.toNat) (by omega)
  have hmn := mn_spec (b.ships.getD ship.toNat zShip).aw.hi hear
  refine WP_seq (WP_region (WPO_all tt_ok (by kernel_rfl) ?_))
  refine WP_seq (WP_region (WPO_all tt_ok (by kernel_rfl) ?_))
  refine WP_seq (WP_region (WPO_run tt_ok 3 (by kernel_rfl) ?_))
  refine IX tt_ok ship b.ships.length [] (by kernel_rfl) (fun hG => ⟨by omega, by omega⟩) ?_
  refine WPO_all tt_ok (by kernel_rfl) ?_
  refine WP_seq (WP_seq (WP_region (WPO_all tt_ok (by kernel_rfl) ?_)))
  refine WP_loopA (ρ := (List Crs)) (coursesR_c1 b ship hear) (coursesR_b1 b ship hear) ((mn (b.ships.getD ship.toNat zShip).aw.hi hear) - (b.ships.getD ship.toNat zShip).aw.lo + 1 : Int).toNat ([]) (fun k : Nat => ((b.ships.getD ship.toNat zShip).aw.lo + (k : Int))) (fun (ci : Int) (zz : (List Crs)) => ⟨81, [(9, [], .s (.int .i64 ci)), (8, [], .s (.p 3 0)), (7, [], .s (.ref 4)), (3, [], .s (.p 2 0)), (1, [], .s (.int .i64 ship)), (2, [], .s (.int .i64 hear))], [(4, .sl .own 124 2 zz encCrs zCrs), (3, .box 65 [.int .i64 (b.ships.getD ship.toNat zShip).m, .int .i64 (b.ships.getD ship.toNat zShip).aw.lo, .int .i64 (b.ships.getD ship.toNat zShip).aw.hi, .int .i64 (b.ships.getD ship.toNat zShip).sp.lo, .int .i64 (b.ships.getD ship.toNat zShip).sp.hi]), (2, .box 27 [.ref 0, .int .i64 b.hear.lo, .int .i64 b.hear.hi, .int .i64 b.br, .int .i64 b.cr, .int .i64 b.sl, .ref 1]), (0, .sl .ro 65 5 b.ships encShip zShip), (1, .sl .ro 70 4 b.sights encSight zSight)], 5, []⟩) (fun zz : (List Crs) => ⟨81, [(7, [], .s (.ref 4))], [(4, .sl .own 124 2 zz encCrs zCrs), (3, .box 65 [.int .i64 (b.ships.getD ship.toNat zShip).m, .int .i64 (b.ships.getD ship.toNat zShip).aw.lo, .int .i64 (b.ships.getD ship.toNat zShip).aw.hi, .int .i64 (b.ships.getD ship.toNat zShip).sp.lo, .int .i64 (b.ships.getD ship.toNat zShip).sp.hi]), (2, .box 27 [.ref 0, .int .i64 b.hear.lo, .int .i64 b.hear.hi, .int .i64 b.br, .int .i64 b.cr, .int .i64 b.sl, .ref 1]), (0, .sl .ro 65 5 b.ships encShip zShip), (1, .sl .ro 70 4 b.sights encSight zSight)], 5, []⟩) (fun (k1 : Nat) (zz : (List Crs)) => zz.length ≤ 3 * k1) (by simp) ⟨(b.ships.getD ship.toNat zShip).aw.lo, by simp, Le.trans (Le_nilT [7] 124 2 encCrs zCrs (fun _ => rfl)) (Le_sel (ts := [9, 8, 7, 3, 1, 2]) (ids := [4, 3, 2, 0, 1]) (nx := 5) (by kernel_rfl))⟩ ?_ ?_
  · intro k1 v1_1 hn1 hp1 hi1 Q1 hq1 ho1
    replace hp1 : v1_1.length ≤ 3 * k1 := hp1
    refine WP_seq (WP_seq (WP_region (WPO_all tt_ok (by kernel_rfl) ?_)))
    refine WP_cond (decide (((b.ships.getD ship.toNat zShip).aw.lo + (k1 : Int)) ≤ (mn (b.ships.getD ship.toNat zShip).aw.hi hear))) (by kernel_rfl) (fun hc1 => ?_) (fun hc1 => ?_)
    rotate_left
    · refine WP_exit ?_
      show Q1 (.exit 0) _
      exact LA_exit hq1 v1_1 (loopR_end hi1 hc1) ⟨k1, hn1, hp1⟩ (Le_sel (ts := [7]) (ids := [4, 3, 2, 0, 1]) (nx := 5) (by kernel_rfl))
    have hc1' := of_decide_eq_true hc1
    have hk1 : k1 < ((mn (b.ships.getD ship.toNat zShip).aw.hi hear) - (b.ships.getD ship.toNat zShip).aw.lo + 1 : Int).toNat := by omega
    refine WP_skip ?_
    refine WP_seq (WP_block ?_)
    refine WP_seq (WP_region (WPO_all tt_ok (by kernel_rfl) ?_))
    refine WP_loopA (ρ := (List Crs)) (coursesR_c2 b ship hear k1 v1_1) (coursesR_b2 b ship hear k1 v1_1) ((b.ships.getD ship.toNat zShip).sp.hi - (b.ships.getD ship.toNat zShip).sp.lo + 1 : Int).toNat v1_1 (fun k : Nat => ((b.ships.getD ship.toNat zShip).sp.lo + (k : Int))) (fun (ci : Int) (zz : (List Crs)) => ⟨81, [(10, [], .s (.int .i64 ci)), (9, [], .s (.int .i64 ((b.ships.getD ship.toNat zShip).aw.lo + (k1 : Int)))), (8, [], .s (.p 3 0)), (7, [], .s (.ref 5)), (3, [], .s (.p 2 0)), (1, [], .s (.int .i64 ship)), (2, [], .s (.int .i64 hear))], [(5, .sl .own 124 2 zz encCrs zCrs), (3, .box 65 [.int .i64 (b.ships.getD ship.toNat zShip).m, .int .i64 (b.ships.getD ship.toNat zShip).aw.lo, .int .i64 (b.ships.getD ship.toNat zShip).aw.hi, .int .i64 (b.ships.getD ship.toNat zShip).sp.lo, .int .i64 (b.ships.getD ship.toNat zShip).sp.hi]), (2, .box 27 [.ref 0, .int .i64 b.hear.lo, .int .i64 b.hear.hi, .int .i64 b.br, .int .i64 b.cr, .int .i64 b.sl, .ref 1]), (0, .sl .ro 65 5 b.ships encShip zShip), (1, .sl .ro 70 4 b.sights encSight zSight)], 6, []⟩) (fun zz : (List Crs) => ⟨81, [(9, [], .s (.int .i64 ((b.ships.getD ship.toNat zShip).aw.lo + (k1 : Int)))), (8, [], .s (.p 3 0)), (7, [], .s (.ref 5)), (3, [], .s (.p 2 0)), (1, [], .s (.int .i64 ship)), (2, [], .s (.int .i64 hear))], [(5, .sl .own 124 2 zz encCrs zCrs), (3, .box 65 [.int .i64 (b.ships.getD ship.toNat zShip).m, .int .i64 (b.ships.getD ship.toNat zShip).aw.lo, .int .i64 (b.ships.getD ship.toNat zShip).aw.hi, .int .i64 (b.ships.getD ship.toNat zShip).sp.lo, .int .i64 (b.ships.getD ship.toNat zShip).sp.hi]), (2, .box 27 [.ref 0, .int .i64 b.hear.lo, .int .i64 b.hear.hi, .int .i64 b.br, .int .i64 b.cr, .int .i64 b.sl, .ref 1]), (0, .sl .ro 65 5 b.ships encShip zShip), (1, .sl .ro 70 4 b.sights encSight zSight)], 6, []⟩) (fun (k2 : Nat) (zz : (List Crs)) => zz.length ≤ v1_1.length + k2) (by simp) ⟨(b.ships.getD ship.toNat zShip).sp.lo, by simp, Le_ren [(5, 4)] ⟨by kernel_rfl, by kernel_rfl, by kernel_rfl, by kernel_rfl, by kernel_rfl, trivial⟩ ⟨by kernel_rfl, rfl, by kernel_rfl, by kernel_rfl, rfl, by kernel_rfl, by kernel_rfl, rfl, by kernel_rfl, by kernel_rfl, rfl, by kernel_rfl, by kernel_rfl, rfl, by kernel_rfl, by kernel_rfl, rfl, by kernel_rfl, by kernel_rfl, rfl, by kernel_rfl, trivial⟩ (by kernel_rfl) (by kernel_rfl) (rnm_id (m := 2) (by kernel_rfl)) (by show 2 ≤ 6; decide) (by kernel_rfl) (by kernel_rfl)⟩ ?_ ?_
    · intro k2 v2_1 hn2 hp2 hi2 Q2 hq2 ho2
      replace hp2 : v2_1.length ≤ v1_1.length + k2 := hp2
      refine WP_seq (WP_seq (WP_region (WPO_all tt_ok (by kernel_rfl) ?_)))
      refine WP_cond (decide (((b.ships.getD ship.toNat zShip).sp.lo + (k2 : Int)) ≤ (b.ships.getD ship.toNat zShip).sp.hi)) (by kernel_rfl) (fun hc2 => ?_) (fun hc2 => ?_)
      rotate_left
      · refine WP_exit ?_
        show Q2 (.exit 2) _
        exact LA_exit hq2 v2_1 (loopR_end hi2 hc2) ⟨k2, hn2, hp2⟩ (Le_sel (ts := [9, 8, 7, 3, 1, 2]) (ids := [5, 3, 2, 0, 1]) (nx := 6) (by kernel_rfl))
      have hc2' := of_decide_eq_true hc2
      have hk2 : k2 < ((b.ships.getD ship.toNat zShip).sp.hi - (b.ships.getD ship.toNat zShip).sp.lo + 1 : Int).toNat := by omega
      refine WP_skip ?_
      refine WP_seq (WP_block ?_)
      refine WP_seq (WP_region (WPO_all tt_ok (by kernel_rfl) ?_))
      refine WP_seq (WP_seq (WP_region (WPO_all tt_ok (by kernel_rfl) ?_)))
      refine WP_loopA (ρ := (List Crs)) (coursesR_c3 b ship hear k1 v1_1 k2 v2_1) (coursesR_b3 b ship hear k1 v1_1 k2 v2_1) b.sights.length true (fun k : Nat => (k : Int)) (fun (ci : Int) (zz : Bool) => ⟨81, [(13, [], .s (.int .i64 ci)), (12, [], .s (.bool zz)), (11, [], .s (.p 6 0)), (10, [], .s (.int .i64 ((b.ships.getD ship.toNat zShip).sp.lo + (k2 : Int)))), (9, [], .s (.int .i64 ((b.ships.getD ship.toNat zShip).aw.lo + (k1 : Int)))), (8, [], .s (.p 3 0)), (7, [], .s (.ref 5)), (3, [], .s (.p 2 0)), (1, [], .s (.int .i64 ship)), (2, [], .s (.int .i64 hear))], [(6, .box 124 [.int .i64 ((b.ships.getD ship.toNat zShip).aw.lo + (k1 : Int)), .int .i64 ((b.ships.getD ship.toNat zShip).sp.lo + (k2 : Int))]), (5, .sl .own 124 2 v2_1 encCrs zCrs), (3, .box 65 [.int .i64 (b.ships.getD ship.toNat zShip).m, .int .i64 (b.ships.getD ship.toNat zShip).aw.lo, .int .i64 (b.ships.getD ship.toNat zShip).aw.hi, .int .i64 (b.ships.getD ship.toNat zShip).sp.lo, .int .i64 (b.ships.getD ship.toNat zShip).sp.hi]), (2, .box 27 [.ref 0, .int .i64 b.hear.lo, .int .i64 b.hear.hi, .int .i64 b.br, .int .i64 b.cr, .int .i64 b.sl, .ref 1]), (0, .sl .ro 65 5 b.ships encShip zShip), (1, .sl .ro 70 4 b.sights encSight zSight)], 7, []⟩) (fun zz : Bool => ⟨81, [(12, [], .s (.bool zz)), (11, [], .s (.p 6 0)), (10, [], .s (.int .i64 ((b.ships.getD ship.toNat zShip).sp.lo + (k2 : Int)))), (9, [], .s (.int .i64 ((b.ships.getD ship.toNat zShip).aw.lo + (k1 : Int)))), (8, [], .s (.p 3 0)), (7, [], .s (.ref 5)), (3, [], .s (.p 2 0)), (1, [], .s (.int .i64 ship)), (2, [], .s (.int .i64 hear))], [(6, .box 124 [.int .i64 ((b.ships.getD ship.toNat zShip).aw.lo + (k1 : Int)), .int .i64 ((b.ships.getD ship.toNat zShip).sp.lo + (k2 : Int))]), (5, .sl .own 124 2 v2_1 encCrs zCrs), (3, .box 65 [.int .i64 (b.ships.getD ship.toNat zShip).m, .int .i64 (b.ships.getD ship.toNat zShip).aw.lo, .int .i64 (b.ships.getD ship.toNat zShip).aw.hi, .int .i64 (b.ships.getD ship.toNat zShip).sp.lo, .int .i64 (b.ships.getD ship.toNat zShip).sp.hi]), (2, .box 27 [.ref 0, .int .i64 b.hear.lo, .int .i64 b.hear.hi, .int .i64 b.br, .int .i64 b.cr, .int .i64 b.sl, .ref 1]), (0, .sl .ro 65 5 b.ships encShip zShip), (1, .sl .ro 70 4 b.sights encSight zSight)], 7, []⟩) (fun k zz => True) trivial ⟨0, rfl, Le_sel (ts := [13, 12, 11, 10, 9, 8, 7, 3, 1, 2]) (ids := [6, 5, 3, 2, 0, 1]) (nx := 7) (by kernel_rfl)⟩ ?_ ?_
      · intro k3 v3_1 hn3 hp3 hi3 Q3 hq3 ho3
        refine WP_seq (WP_seq (WP_region (WPO_all tt_ok (by kernel_rfl) ?_)))
        refine WP_cond (decide ((k3 : Int) < (b.sights.length : Int))) (by kernel_rfl) (fun hc3 => ?_) (fun hc3 => ?_)
        rotate_left
        · refine WP_exit ?_
          show Q3 (.exit 4) _
          exact LA_exit hq3 v3_1 (loopR_end hi3 hc3) ⟨k3, hn3, hp3⟩ (Le_sel (ts := [12, 11, 10, 9, 8, 7, 3, 1, 2]) (ids := [6, 5, 3, 2, 0, 1]) (nx := 7) (by kernel_rfl))
        have hc3' := of_decide_eq_true hc3
        have hk3 : k3 < b.sights.length := by omega
        refine WP_skip ?_
        refine WP_seq (WP_block ?_)
        refine WP_seq (WP_region (WPO_run tt_ok 3 (by kernel_rfl) ?_))
        refine IX tt_ok (k3 : Int) b.sights.length [] (by kernel_rfl) (fun hG => ⟨by omega, by omega⟩) ?_
        refine WPO_all tt_ok (by kernel_rfl) ?_
        refine WP_draw (by kernel_rfl) (by kernel_rfl) ?_
        refine WPQ_run tt_ok 14 (by kernel_rfl) ?_
        refine QCALL 111 [.g [.ref 0, .int .i64 b.hear.lo, .int .i64 b.hear.hi, .int .i64 b.br, .int .i64 b.cr, .int .i64 b.sl, .ref 1], .s (.int .i64 ship), .g [.int .i64 ((b.ships.getD ship.toNat zShip).aw.lo + (k1 : Int)), .int .i64 ((b.ships.getD ship.toNat zShip).sp.lo + (k2 : Int))], .s (.int .i64 (b.sights.getD k3 zSight).m)] (.s (.int .i64 (distR b ship (⟨((b.ships.getD ship.toNat zShip).aw.lo + (k1 : Int)), ((b.ships.getD ship.toNat zShip).sp.lo + (k2 : Int))⟩ : Crs) (b.sights.getD k3 zSight).m))) [((b.sights.getD k3 zSight).ship != ship, false), (v3_1, true)] (by kernel_rfl) (goes_of (by kernel_rfl)) (by kernel_rfl) (by kernel_rfl) (fun _ nV w h => distR_calls (nV 0) (nV 1) b ship (⟨((b.ships.getD ship.toNat zShip).aw.lo + (k1 : Int)), ((b.ships.getD ship.toNat zShip).sp.lo + (k2 : Int))⟩ : Crs) (b.sights.getD k3 zSight).m w (h.reads (id := 0) (kd := .ro) (e := 65) (by kernel_rfl)) (h.reads (id := 1) (kd := .ro) (e := 70) (by kernel_rfl)) (by first | assumption | omega)) ?_
        refine QCALL 31 [.g [.int .i64 (b.sights.getD k3 zSight).aw.lo, .int .i64 (b.sights.getD k3 zSight).aw.hi], .s (.int .i64 (distR b ship (⟨((b.ships.getD ship.toNat zShip).aw.lo + (k1 : Int)), ((b.ships.getD ship.toNat zShip).sp.lo + (k2 : Int))⟩ : Crs) (b.sights.getD k3 zSight).m))] (.s (.bool (containsF (b.sights.getD k3 zSight).aw (distR b ship (⟨((b.ships.getD ship.toNat zShip).aw.lo + (k1 : Int)), ((b.ships.getD ship.toNat zShip).sp.lo + (k2 : Int))⟩ : Crs) (b.sights.getD k3 zSight).m)))) [((b.sights.getD k3 zSight).ship != ship, false), (v3_1, true)] (by kernel_rfl) (goes_of (by kernel_rfl)) (by kernel_rfl) (by kernel_rfl) (fun _ nV w h => containsF_calls  (b.sights.getD k3 zSight).aw (distR b ship (⟨((b.ships.getD ship.toNat zShip).aw.lo + (k1 : Int)), ((b.ships.getD ship.toNat zShip).sp.lo + (k2 : Int))⟩ : Crs) (b.sights.getD k3 zSight).m) w  ) ?_
        refine WPQ_all tt_ok (by kernel_rfl) ?_
        refine WP_region (WPO_all tt_ok (by kernel_rfl) ?_)
        show Q3 .normal _
        exact LA_go hq3 (ci := IntKind.i64.wrap ((k3 : Int) + 1)) (v3_1 && (((b.sights.getD k3 zSight).ship != ship) || (containsF (b.sights.getD k3 zSight).aw (distR b ship (⟨((b.ships.getD ship.toNat zShip).aw.lo + (k1 : Int)), ((b.ships.getD ship.toNat zShip).sp.lo + (k2 : Int))⟩ : Crs) (b.sights.getD k3 zSight).m)))) hk3 (by show _ = ((k3 + 1 : Nat) : Int); rw [wrapI (by omega) (by omega)]; omega) (loopR_go hi3 hk3 hc3 (rfl)) trivial (Le_sel (ts := [13, 12, 11, 10, 9, 8, 7, 3, 1, 2]) (ids := [6, 5, 3, 2, 0, 1]) (nx := 7) (by kernel_rfl))
      intro u3_0 hR3 hP3 s' hl
      refine WP_le hl ?_
      clear hl s'
      refine WP_seq (WP_region (WPO_all tt_ok (by kernel_rfl) ?_))
      refine WP_cond (u3_0) (by kernel_rfl) (fun hc5 => ?_) (fun hc5 => ?_)
      · refine WP_region (WPO_run tt_ok 2 (by kernel_rfl) ?_)
        refine LIT tt_ok (by kernel_rfl) ?_
        refine LITSL 7 124 1 2 [.int .i64 ((b.ships.getD ship.toNat zShip).aw.lo + (k1 : Int)), .int .i64 ((b.ships.getD ship.toNat zShip).sp.lo + (k2 : Int))] [(⟨((b.ships.getD ship.toNat zShip).aw.lo + (k1 : Int)), ((b.ships.getD ship.toNat zShip).sp.lo + (k2 : Int))⟩ : Crs)] encCrs zCrs (by kernel_rfl) rfl (fun _ => rfl) (fun n => rfl) ?_
        refine APP tt_ok (.s (.ref 5)) (.s (.ref 7)) 120 124 (some 79) 2 v2_1 ([(⟨((b.ships.getD ship.toNat zShip).aw.lo + (k1 : Int)), ((b.ships.getD ship.toNat zShip).sp.lo + (k2 : Int))⟩ : Crs)]) encCrs zCrs (by kernel_rfl) (by kernel_rfl) (by kernel_rfl) (by kernel_rfl) (.inr (.inl ⟨5, rfl, (by kernel_rfl)⟩)) (.inr ⟨7, .own, rfl, (by kernel_rfl), (by simp only [List.length_cons, List.length_nil]; omega)⟩) (by simp) (fun y => rfl) (fun y => List.all_eq_true.1 rfl) (fun i hi => (by have hby : (tyL tt 124).map (·.bytes) = some 16 := (by kernel_rfl); rw [hi] at hby; simp only [Option.map_some, Option.some.injEq] at hby; rw [hby]; simp only [List.length_append, List.length_cons, List.length_nil]; omega)) ?_
        refine WPO_all tt_ok (by kernel_rfl) ?_
        refine WP_region (WPO_all tt_ok (by kernel_rfl) ?_)
        show Q2 .normal _
        exact LA_go hq2 (ci := IntKind.i64.wrap (((b.ships.getD ship.toNat zShip).sp.lo + (k2 : Int)) + 1)) (v2_1 ++ ([(⟨((b.ships.getD ship.toNat zShip).aw.lo + (k1 : Int)), ((b.ships.getD ship.toNat zShip).sp.lo + (k2 : Int))⟩ : Crs)])) hk2 (by show _ = ((b.ships.getD ship.toNat zShip).sp.lo + ((k2 + 1 : Nat) : Int)); rw [wrapI (by omega) (by omega)]; omega) (loopR_go hi2 hk2 hc2 (by unfold coursesR_b2; simp only [hR3, hc5, cond_true, cond_false])) (by simp only [List.length_append, List.length_cons, List.length_nil]; omega) (Le_ren [(5, 8)] ⟨by kernel_rfl, by kernel_rfl, by kernel_rfl, by kernel_rfl, by kernel_rfl, trivial⟩ ⟨by kernel_rfl, rfl, by kernel_rfl, by kernel_rfl, rfl, by kernel_rfl, by kernel_rfl, rfl, by kernel_rfl, by kernel_rfl, rfl, by kernel_rfl, by kernel_rfl, rfl, by kernel_rfl, by kernel_rfl, rfl, by kernel_rfl, by kernel_rfl, rfl, by kernel_rfl, trivial⟩ (by kernel_rfl) (by kernel_rfl) (rnm_id (m := 2) (by kernel_rfl)) (by show 2 ≤ 6; decide) (by kernel_rfl) (by kernel_rfl))
      refine WP_skip ?_
      refine WP_region (WPO_all tt_ok (by kernel_rfl) ?_)
      show Q2 .normal _
      exact LA_go hq2 (ci := IntKind.i64.wrap (((b.ships.getD ship.toNat zShip).sp.lo + (k2 : Int)) + 1)) v2_1 hk2 (by show _ = ((b.ships.getD ship.toNat zShip).sp.lo + ((k2 + 1 : Nat) : Int)); rw [wrapI (by omega) (by omega)]; omega) (loopR_go hi2 hk2 hc2 (by unfold coursesR_b2; simp only [hR3, hc5, cond_true, cond_false])) (by omega) (Le_sel (ts := [10, 9, 8, 7, 3, 1, 2]) (ids := [5, 3, 2, 0, 1]) (nx := 6) (by kernel_rfl))
    intro u2_0 hR2 hP2 s' hl
    obtain ⟨kP2, hkP2, hpP2⟩ := hP2
    replace hpP2 : u2_0.length ≤ v1_1.length + kP2 := hpP2
    refine WP_le hl ?_
    clear hl s'
    refine WP_region (WPO_all tt_ok (by kernel_rfl) ?_)
    show Q1 .normal _
    exact LA_go hq1 (ci := IntKind.i64.wrap (((b.ships.getD ship.toNat zShip).aw.lo + (k1 : Int)) + 1)) u2_0 hk1 (by show _ = ((b.ships.getD ship.toNat zShip).aw.lo + ((k1 + 1 : Nat) : Int)); rw [wrapI (by omega) (by omega)]; omega) (loopR_go hi1 hk1 hc1 (by unfold coursesR_b1; simp only [hR2, cond_true, cond_false])) (by omega) (Le_ren [(4, 5)] ⟨by kernel_rfl, by kernel_rfl, by kernel_rfl, by kernel_rfl, by kernel_rfl, trivial⟩ ⟨by kernel_rfl, rfl, by kernel_rfl, by kernel_rfl, rfl, by kernel_rfl, by kernel_rfl, rfl, by kernel_rfl, by kernel_rfl, rfl, by kernel_rfl, by kernel_rfl, rfl, by kernel_rfl, by kernel_rfl, rfl, by kernel_rfl, trivial⟩ (by kernel_rfl) (by kernel_rfl) (rnm_id (m := 2) (by kernel_rfl)) (by show 2 ≤ 5; decide) (by kernel_rfl) (by kernel_rfl))
  intro u1_0 hR1 hP1 s' hl
  obtain ⟨kP1, hkP1, hpP1⟩ := hP1
  replace hpP1 : u1_0.length ≤ 3 * kP1 := hpP1
  refine WP_le hl ?_
  clear hl s'
  refine WP_seq (WP_region (WPO_all tt_ok (by kernel_rfl) ?_))
  refine WP_ret ?_
  exact ⟨.s (.ref 4), by kernel_rfl, fun nV w' h => ⟨nV 4, rfl, h.bel, by rw [show coursesR b ship hear = u1_0 from by unfold coursesR; simp only [hR1, cond_true, cond_false]]; exact own_of (z := zCrs) h (by kernel_rfl)⟩⟩
end Go.Proofs.YtamimgmoomcipaaDoor.Rf
namespace Go.Proofs.YtamimgmoomcipaaDoor.Rf
open Go Go.Proofs.YtamimgmoomcipaaDoor.Eng Go.Proofs.YtamimgmoomcipaaDoor.Fw
set_option linter.unusedVariables false
set_option linter.unusedSimpArgs false
theorem insideF_eq (n low high : Int) : insideF n low high = withinF n low high := by unfold insideF withinF; simp only [ge_iff_le]
theorem validF_eq (s : Span) (low high : Int) : validF s low high = (decide (low ≤ s.lo) && decide (s.lo ≤ s.hi) && decide (s.hi ≤ high)) := by unfold validF; simp only [ge_iff_le]
theorem farR_eq (s : Span) (least wide : Int) : farR s least wide = isSpanW s.lo s.hi least 120 wide := by unfold farR isSpanW; rw [validF_eq]
theorem checkR_eq {b : Book} (h1 : (b.ships.length : Int) ≤ 9223372036854775807) : checkR b = checkW b := by
  unfold checkR
  rw [loopR_all (fun k => okShipW (b.ships.getD k zShip)) (fun k v hk => by simp only [checkR_c1]; rw [decide_eq_true (by omega)]; simp) (fun k hk => by
    simp only [checkR_b1, okShipW, insideF_eq, farR_eq, validF_eq, isSpanW, Bool.and_assoc])]
  simp only
  rw [loopR_all (fun k => okSightW b (b.sights.getD k zSight)) (fun k v hk => by simp only [checkR_c2]; rw [decide_eq_true (by omega)]; simp) (fun k hk => by
    simp only [checkR_b2, okSightW, insideF_eq, farR_eq, isShipR]; rw [wrapI (by omega) (by omega)])]
  simp only
  rw [all_range b.ships zShip okShipW, all_range b.sights zSight (okSightW b)]
  unfold checkW okShipsW okMidW okHeadW
  simp only [insideF_eq, farR_eq]
  cases decide ((b.ships.length : Int) ≤ 4) <;> cases isSpanW b.hear.lo b.hear.hi 1 120 10 <;> cases withinF b.br 0 10 <;> cases withinF b.cr 1 20 <;> cases withinF b.sl 0 15 <;> cases decide ((b.sights.length : Int) ≤ 5) <;> cases b.ships.all okShipW <;> cases b.sights.all (okSightW b) <;> rfl
theorem checkR_valid {b : Book} (h1 : (b.ships.length : Int) ≤ 9223372036854775807) (h : checkR b = 0) : Valid b := check_valid.1 ((checkR_eq h1).symm.trans h)
end Go.Proofs.YtamimgmoomcipaaDoor.Rf
namespace Go.Proofs.YtamimgmoomcipaaDoor.Rf
open Go Go.RowKit Go.Proofs.YtamimgmoomcipaaDoor.Eng Go.Proofs.YtamimgmoomcipaaDoor.Fw
set_option linter.unusedVariables false
set_option linter.unusedSimpArgs false
def hearsR_c2 (b : Book) (k1 : Nat) (v1_1 : List Int) (k2 : Nat) : Bool → Bool := fun v2_1 => decide ((k2 : Int) < (b.ships.length : Int))
def hearsR_b2 (b : Book) (k1 : Nat) (v1_1 : List Int) (k2 : Nat) : Bool → Bd Bool (List Int) := fun v2_1 => .go (v2_1 && (decide (((bif (true && (v2_1 == true)) then (coursesR b (k2 : Int) (b.hear.lo + (k1 : Int))) else []).length : Int) > 0)))
def hearsR_c1 (b : Book) (k1 : Nat) : (List Int) → Bool := fun v1_1 => decide ((b.hear.lo + (k1 : Int)) ≤ b.hear.hi)
def hearsR_b1 (b : Book) (k1 : Nat) : (List Int) → Bd (List Int) (List Int) := fun v1_1 => (match loopR (hearsR_c2 b k1 v1_1) (hearsR_b2 b k1 v1_1) b.ships.length 0 true with | .brk u2_0 => (bif u2_0 then .go (v1_1 ++ ([(b.hear.lo + (k1 : Int))])) else .go v1_1) | .ret r => .ret r)
def hearsR (b : Book) : (List Int) :=
  (match loopR (hearsR_c1 b) (hearsR_b1 b) (b.hear.hi - b.hear.lo + 1 : Int).toNat 0 ([]) with | .brk u1_0 => u1_0 | .ret r => r)
theorem hearsR_calls (g0 g1 : Value) (b : Book) (w : World) (r0 : Reads w g0 5 b.ships encShip zShip) (r1 : Reads w g1 4 b.sights encSight zSight) (hv : Valid b) : Calls Tryd.prog 91 #[.agg #[g0, iv b.hear.lo, iv b.hear.hi, iv b.br, iv b.cr, iv b.sl, g1]] w fun e w' => ∃ v0, e = .returned (v0) ∧ Below w.heap.size w w' ∧ w'.ownsRow w.heap.size 3 1 v0 (hearsR b).length (flat (hearsR b) encI) := by
  refine calls_of_WP (cx := cx0 w (vn [g0, g1]) 2) (n := vn [g0, g1]) (vs := [.g [.ref 0, .int .i64 b.hear.lo, .int .i64 b.hear.hi, .int .i64 b.br, .int .i64 b.cr, .int .i64 b.sl, .ref 1]]) (hp := [(0, .sl .ro 65 5 b.ships encShip zShip), (1, .sl .ro 70 4 b.sights encSight zSight)]) (nx := 2) tt_ok Tryd.func91 rfl rfl rfl (by kernel_rfl) (HSat_args (vn_one (by simp [r0.one, r1.one])) (Nat.le_refl _) ⟨⟨⟨fun _ => rfl, by decide, r0⟩, (Nat.le_of_ble_eq_true rfl)⟩, ⟨⟨fun _ => rfl, by decide, r1⟩, (Nat.le_of_ble_eq_true rfl)⟩, trivial⟩) (vsOk (by kernel_rfl)) ?_
  have hl0 := Reads.len r0
  have hl1 := Reads.len r1
  have hbs := hv.nships
  have hbg := hv.nsights
  have hbh := hv.hear
  have hbc := hv.cr
  have hbl := hv.sl
  refine WP_seq (WP_region (WPO_all tt_ok (by kernel_rfl) ?_))
  refine WP_seq (WP_region (LIT tt_ok (by kernel_rfl) ?_))
  refine LITSL 3 3 0 1 [] ([] : List Int) encI 0 (by kernel_rfl) rfl (fun _ => rfl) (fun n => rfl) ?_
  refine WPO_all tt_ok (by kernel_rfl) ?_
  refine WP_seq (WP_seq (WP_region (WPO_all tt_ok (by kernel_rfl) ?_)))
  refine WP_loopA (ρ := (List Int)) (hearsR_c1 b) (hearsR_b1 b) (b.hear.hi - b.hear.lo + 1 : Int).toNat ([]) (fun k : Nat => (b.hear.lo + (k : Int))) (fun (ci : Int) (zz : (List Int)) => ⟨40, [(4, [], .s (.int .i64 ci)), (3, [], .s (.ref 4)), (1, [], .s (.p 2 0))], [(4, .sl .own 3 1 zz encI 0), (2, .box 27 [.ref 0, .int .i64 b.hear.lo, .int .i64 b.hear.hi, .int .i64 b.br, .int .i64 b.cr, .int .i64 b.sl, .ref 1]), (0, .sl .ro 65 5 b.ships encShip zShip), (1, .sl .ro 70 4 b.sights encSight zSight)], 5, []⟩) (fun zz : (List Int) => ⟨40, [(3, [], .s (.ref 4))], [(4, .sl .own 3 1 zz encI 0), (2, .box 27 [.ref 0, .int .i64 b.hear.lo, .int .i64 b.hear.hi, .int .i64 b.br, .int .i64 b.cr, .int .i64 b.sl, .ref 1]), (0, .sl .ro 65 5 b.ships encShip zShip), (1, .sl .ro 70 4 b.sights encSight zSight)], 5, []⟩) (fun (k1 : Nat) (zz : (List Int)) => zz.length ≤ k1) (by simp) ⟨b.hear.lo, by simp, Le_ren [(4, 3)] ⟨by kernel_rfl, by kernel_rfl, by kernel_rfl, by kernel_rfl, trivial⟩ ⟨by kernel_rfl, rfl, by kernel_rfl, by kernel_rfl, rfl, by kernel_rfl, by kernel_rfl, rfl, by kernel_rfl, trivial⟩ (by kernel_rfl) (by kernel_rfl) (rnm_id (m := 2) (by kernel_rfl)) (by show 2 ≤ 5; decide) (by kernel_rfl) (by kernel_rfl)⟩ ?_ ?_
  · intro k1 v1_1 hn1 hp1 hi1 Q1 hq1 ho1
    replace hp1 : v1_1.length ≤ k1 := hp1
    refine WP_seq (WP_seq (WP_region (WPO_all tt_ok (by kernel_rfl) ?_)))
    refine WP_cond (decide ((b.hear.lo + (k1 : Int)) ≤ b.hear.hi)) (by kernel_rfl) (fun hc1 => ?_) (fun hc1 => ?_)
    rotate_left
    · refine WP_exit ?_
      show Q1 (.exit 0) _
      exact LA_exit hq1 v1_1 (loopR_end hi1 hc1) ⟨k1, hn1, hp1⟩ (Le_sel (ts := [3]) (ids := [4, 2, 0, 1]) (nx := 5) (by kernel_rfl))
    have hc1' := of_decide_eq_true hc1
    have hk1 : k1 < (b.hear.hi - b.hear.lo + 1 : Int).toNat := by omega
    refine WP_skip ?_
    refine WP_seq (WP_block ?_)
    refine WP_seq (WP_region (WPO_all tt_ok (by kernel_rfl) ?_))
    refine WP_seq (WP_seq (WP_region (WPO_all tt_ok (by kernel_rfl) ?_)))
    refine WP_loopA (ρ := (List Int)) (hearsR_c2 b k1 v1_1) (hearsR_b2 b k1 v1_1) b.ships.length true (fun k : Nat => (k : Int)) (fun (ci : Int) (zz : Bool) => ⟨40, [(6, [], .s (.int .i64 ci)), (5, [], .s (.bool zz)), (4, [], .s (.int .i64 (b.hear.lo + (k1 : Int)))), (3, [], .s (.ref 4)), (1, [], .s (.p 2 0))], [(4, .sl .own 3 1 v1_1 encI 0), (2, .box 27 [.ref 0, .int .i64 b.hear.lo, .int .i64 b.hear.hi, .int .i64 b.br, .int .i64 b.cr, .int .i64 b.sl, .ref 1]), (0, .sl .ro 65 5 b.ships encShip zShip), (1, .sl .ro 70 4 b.sights encSight zSight)], 5, []⟩) (fun zz : Bool => ⟨40, [(5, [], .s (.bool zz)), (4, [], .s (.int .i64 (b.hear.lo + (k1 : Int)))), (3, [], .s (.ref 4)), (1, [], .s (.p 2 0))], [(4, .sl .own 3 1 v1_1 encI 0), (2, .box 27 [.ref 0, .int .i64 b.hear.lo, .int .i64 b.hear.hi, .int .i64 b.br, .int .i64 b.cr, .int .i64 b.sl, .ref 1]), (0, .sl .ro 65 5 b.ships encShip zShip), (1, .sl .ro 70 4 b.sights encSight zSight)], 5, []⟩) (fun k zz => True) trivial ⟨0, rfl, Le_sel (ts := [6, 5, 4, 3, 1]) (ids := [4, 2, 0, 1]) (nx := 5) (by kernel_rfl)⟩ ?_ ?_
    · intro k2 v2_1 hn2 hp2 hi2 Q2 hq2 ho2
      refine WP_seq (WP_seq (WP_region (WPO_all tt_ok (by kernel_rfl) ?_)))
      refine WP_cond (decide ((k2 : Int) < (b.ships.length : Int))) (by kernel_rfl) (fun hc2 => ?_) (fun hc2 => ?_)
      rotate_left
      · refine WP_exit ?_
        show Q2 (.exit 2) _
        exact LA_exit hq2 v2_1 (loopR_end hi2 hc2) ⟨k2, hn2, hp2⟩ (Le_sel (ts := [5, 4, 3, 1]) (ids := [4, 2, 0, 1]) (nx := 5) (by kernel_rfl))
      have hc2' := of_decide_eq_true hc2
      have hk2 : k2 < b.ships.length := by omega
      refine WP_skip ?_
      refine WP_seq (WP_block ?_)
      refine WP_region (WPO_run tt_ok 5 (by kernel_rfl) ?_)
      refine CALLNG 110 [.g [.ref 0, .int .i64 b.hear.lo, .int .i64 b.hear.hi, .int .i64 b.br, .int .i64 b.cr, .int .i64 b.sl, .ref 1], .s (.int .i64 (k2 : Int)), .s (.int .i64 (b.hear.lo + (k1 : Int)))] [(26, true)] (true && (v2_1 == true)) 124 2 (coursesR b (k2 : Int) (b.hear.lo + (k1 : Int))) encCrs zCrs (.s (.ref 5)) 5 (by kernel_rfl) (by kernel_rfl) (by kernel_rfl) (goes_of (by kernel_rfl)) (by kernel_rfl) (by kernel_rfl) (fun _ => rfl) (fun hG => (fun nV w h => coursesR_calls (nV 0) (nV 1) b (k2 : Int) (b.hear.lo + (k1 : Int)) w (h.reads (id := 0) (kd := .ro) (e := 65) (by kernel_rfl)) (h.reads (id := 1) (kd := .ro) (e := 70) (by kernel_rfl)) (by first | assumption | omega | exact checkR_valid hl0 (by assumption) | exact askR_valid hl0 (by assumption)) (by first | assumption | omega | exact checkR_valid hl0 (by assumption) | exact askR_valid hl0 (by assumption)))) ?_
      refine WPO_all tt_ok (by kernel_rfl) ?_
      refine WP_region (WPO_all tt_ok (by kernel_rfl) ?_)
      show Q2 .normal _
      exact LA_go hq2 (ci := IntKind.i64.wrap ((k2 : Int) + 1)) (v2_1 && (decide (((bif (true && (v2_1 == true)) then (coursesR b (k2 : Int) (b.hear.lo + (k1 : Int))) else []).length : Int) > 0))) hk2 (by show _ = ((k2 + 1 : Nat) : Int); rw [wrapI (by omega) (by omega)]; omega) (loopR_go hi2 hk2 hc2 (rfl)) trivial (Le_sel (ts := [6, 5, 4, 3, 1]) (ids := [4, 2, 0, 1]) (nx := 5) (by kernel_rfl))
    intro u2_0 hR2 hP2 s' hl
    refine WP_le hl ?_
    clear hl s'
    refine WP_seq (WP_region (WPO_all tt_ok (by kernel_rfl) ?_))
    refine WP_cond (u2_0) (by kernel_rfl) (fun hc4 => ?_) (fun hc4 => ?_)
    · refine WP_region (WPO_run tt_ok 2 (by kernel_rfl) ?_)
      refine LIT tt_ok (by kernel_rfl) ?_
      refine LITSL 5 3 1 1 [.int .i64 (b.hear.lo + (k1 : Int))] [(b.hear.lo + (k1 : Int))] encI 0 (by kernel_rfl) rfl (fun _ => rfl) (fun n => rfl) ?_
      refine APP tt_ok (.s (.ref 4)) (.s (.ref 5)) 37 3 (some 38) 1 v1_1 ([(b.hear.lo + (k1 : Int))]) encI 0 (by kernel_rfl) (by kernel_rfl) (by kernel_rfl) (by kernel_rfl) (.inr (.inl ⟨4, rfl, (by kernel_rfl)⟩)) (.inr ⟨5, .own, rfl, (by kernel_rfl), (by simp only [List.length_cons, List.length_nil]; omega)⟩) (by simp) (fun y => rfl) (fun y => List.all_eq_true.1 rfl) (fun i hi => (by have hby : (tyL tt 3).map (·.bytes) = some 8 := (by kernel_rfl); rw [hi] at hby; simp only [Option.map_some, Option.some.injEq] at hby; rw [hby]; simp only [List.length_append, List.length_cons, List.length_nil]; omega)) ?_
      refine WPO_all tt_ok (by kernel_rfl) ?_
      refine WP_region (WPO_all tt_ok (by kernel_rfl) ?_)
      show Q1 .normal _
      exact LA_go hq1 (ci := IntKind.i64.wrap ((b.hear.lo + (k1 : Int)) + 1)) (v1_1 ++ ([(b.hear.lo + (k1 : Int))])) hk1 (by show _ = (b.hear.lo + ((k1 + 1 : Nat) : Int)); rw [wrapI (by omega) (by omega)]; omega) (loopR_go hi1 hk1 hc1 (by unfold hearsR_b1; simp only [hR2, hc4, cond_true, cond_false])) (by simp only [List.length_append, List.length_cons, List.length_nil]; omega) (Le_ren [(4, 6)] ⟨by kernel_rfl, by kernel_rfl, by kernel_rfl, by kernel_rfl, trivial⟩ ⟨by kernel_rfl, rfl, by kernel_rfl, by kernel_rfl, rfl, by kernel_rfl, by kernel_rfl, rfl, by kernel_rfl, trivial⟩ (by kernel_rfl) (by kernel_rfl) (rnm_id (m := 2) (by kernel_rfl)) (by show 2 ≤ 5; decide) (by kernel_rfl) (by kernel_rfl))
    refine WP_skip ?_
    refine WP_region (WPO_all tt_ok (by kernel_rfl) ?_)
    show Q1 .normal _
    exact LA_go hq1 (ci := IntKind.i64.wrap ((b.hear.lo + (k1 : Int)) + 1)) v1_1 hk1 (by show _ = (b.hear.lo + ((k1 + 1 : Nat) : Int)); rw [wrapI (by omega) (by omega)]; omega) (loopR_go hi1 hk1 hc1 (by unfold hearsR_b1; simp only [hR2, hc4, cond_true, cond_false])) (by omega) (Le_sel (ts := [4, 3, 1]) (ids := [4, 2, 0, 1]) (nx := 5) (by kernel_rfl))
  intro u1_0 hR1 hP1 s' hl
  obtain ⟨kP1, hkP1, hpP1⟩ := hP1
  replace hpP1 : u1_0.length ≤ kP1 := hpP1
  refine WP_le hl ?_
  clear hl s'
  refine WP_seq (WP_region (WPO_all tt_ok (by kernel_rfl) ?_))
  refine WP_ret ?_
  exact ⟨.s (.ref 4), by kernel_rfl, fun nV w' h => ⟨nV 4, rfl, h.bel, by rw [show hearsR b = u1_0 from by unfold hearsR; simp only [hR1, cond_true, cond_false]]; exact own_of (z := 0) h (by kernel_rfl)⟩⟩
def askR (b : Book) (ok : Bool) : (List Int) × Int :=
  (bif (checkR b) != 0 then ([], (checkR b)) else (bif !ok then ([], 41) else (bif ((hearsR b).length : Int) == 0 then ([], 42) else ((hearsR b), 0))))
theorem askR_calls (g0 g1 : Value) (b : Book) (ok : Bool) (w : World) (r0 : Reads w g0 5 b.ships encShip zShip) (r1 : Reads w g1 4 b.sights encSight zSight)  : Calls Tryd.prog 94 #[.agg #[g0, iv b.hear.lo, iv b.hear.hi, iv b.br, iv b.cr, iv b.sl, g1], .bool ok] w fun e w' => ∃ v0, e = .returned (.tuple #[v0, iv (askR b ok).2]) ∧ Below w.heap.size w w' ∧ w'.ownsRow w.heap.size 3 1 v0 (askR b ok).1.length (flat (askR b ok).1 encI) := by
  refine calls_of_WP (cx := cx0 w (vn [g0, g1]) 2) (n := vn [g0, g1]) (vs := [.g [.ref 0, .int .i64 b.hear.lo, .int .i64 b.hear.hi, .int .i64 b.br, .int .i64 b.cr, .int .i64 b.sl, .ref 1], .s (.bool ok)]) (hp := [(0, .sl .ro 65 5 b.ships encShip zShip), (1, .sl .ro 70 4 b.sights encSight zSight)]) (nx := 2) tt_ok Tryd.func94 rfl rfl rfl (by kernel_rfl) (HSat_args (vn_one (by simp [r0.one, r1.one])) (Nat.le_refl _) ⟨⟨⟨fun _ => rfl, by decide, r0⟩, (Nat.le_of_ble_eq_true rfl)⟩, ⟨⟨fun _ => rfl, by decide, r1⟩, (Nat.le_of_ble_eq_true rfl)⟩, trivial⟩) (vsOk (by kernel_rfl)) ?_
  have hl0 := Reads.len r0
  have hl1 := Reads.len r1
  refine WP_seq (WP_region (WPO_all tt_ok (by kernel_rfl) ?_))
  refine WP_seq (WP_seq (WP_region (WPO_run tt_ok 1 (by kernel_rfl) ?_)))
  refine CALL 59 [.g [.ref 0, .int .i64 b.hear.lo, .int .i64 b.hear.hi, .int .i64 b.br, .int .i64 b.cr, .int .i64 b.sl, .ref 1]] (.s (.int .i64 (checkR b))) [] (by kernel_rfl) (goes_of (by kernel_rfl)) (by kernel_rfl) (by kernel_rfl) (fun _ nV w h => checkR_calls (nV 0) (nV 1) b w (h.reads (id := 0) (kd := .ro) (e := 65) (by kernel_rfl)) (h.reads (id := 1) (kd := .ro) (e := 70) (by kernel_rfl)) ) ?_
  refine WPO_all tt_ok (by kernel_rfl) ?_
  refine WP_seq (WP_region (WPO_all tt_ok (by kernel_rfl) ?_))
  refine WP_cond ((checkR b) != 0) (by kernel_rfl) (fun hc2 => ?_) (fun hc2 => ?_)
  · have hc2' := hc2; try simp only [Bool.and_eq_true, Bool.or_eq_true, Bool.and_eq_false_iff, Bool.or_eq_false_iff, Bool.not_eq_true', Bool.not_eq_false', decide_eq_true_eq, decide_eq_false_iff_not, beq_iff_eq, beq_eq_false_iff_ne, bne_iff_ne, bne_eq_false_iff_eq, ne_eq] at hc2'
    refine WP_seq (WP_region (WPO_all tt_ok (by kernel_rfl) ?_))
    refine WP_ret ?_
    exact ⟨.t [(false, [.v (.slice none 0 0)]), (false, [.int .i64 (checkR b)])], by kernel_rfl, fun nV w' h => ⟨.slice none 0 0, by rw [show askR b ok = ([], (checkR b)) from by unfold askR; simp only [hc2, cond_true, cond_false]]; rfl, h.bel, by rw [show askR b ok = ([], (checkR b)) from by unfold askR; simp only [hc2, cond_true, cond_false]]; exact own_nil _ _ _ _ _⟩⟩
  have hc2' := hc2; try simp only [Bool.and_eq_true, Bool.or_eq_true, Bool.and_eq_false_iff, Bool.or_eq_false_iff, Bool.not_eq_true', Bool.not_eq_false', decide_eq_true_eq, decide_eq_false_iff_not, beq_iff_eq, beq_eq_false_iff_ne, bne_iff_ne, bne_eq_false_iff_eq, ne_eq] at hc2'
  refine WP_skip ?_
  refine WP_seq (WP_seq (WP_region (WPO_all tt_ok (by kernel_rfl) ?_)))
  refine WP_cond (!ok) (by kernel_rfl) (fun hc4 => ?_) (fun hc4 => ?_)
  · have hc4' := hc4; try simp only [Bool.and_eq_true, Bool.or_eq_true, Bool.and_eq_false_iff, Bool.or_eq_false_iff, Bool.not_eq_true', Bool.not_eq_false', decide_eq_true_eq, decide_eq_false_iff_not, beq_iff_eq, beq_eq_false_iff_ne, bne_iff_ne, bne_eq_false_iff_eq, ne_eq] at hc4'
    refine WP_seq (WP_region (WPO_all tt_ok (by kernel_rfl) ?_))
    refine WP_ret ?_
    exact ⟨.t [(false, [.v (.slice none 0 0)]), (false, [.int .i64 41])], by kernel_rfl, fun nV w' h => ⟨.slice none 0 0, by rw [show askR b ok = ([], 41) from by unfold askR; simp only [hc2, hc4, cond_true, cond_false]]; rfl, h.bel, by rw [show askR b ok = ([], 41) from by unfold askR; simp only [hc2, hc4, cond_true, cond_false]]; exact own_nil _ _ _ _ _⟩⟩
  have hc4' := hc4; try simp only [Bool.and_eq_true, Bool.or_eq_true, Bool.and_eq_false_iff, Bool.or_eq_false_iff, Bool.not_eq_true', Bool.not_eq_false', decide_eq_true_eq, decide_eq_false_iff_not, beq_iff_eq, beq_eq_false_iff_ne, bne_iff_ne, bne_eq_false_iff_eq, ne_eq] at hc4'
  refine WP_skip ?_
  refine WP_seq (WP_region (WPO_run tt_ok 1 (by kernel_rfl) ?_))
  refine CALLO 91 [.g [.ref 0, .int .i64 b.hear.lo, .int .i64 b.hear.hi, .int .i64 b.br, .int .i64 b.cr, .int .i64 b.sl, .ref 1]] (.s (.ref 3)) 3 1 (hearsR b) encI 0 3 (by kernel_rfl) (by kernel_rfl) (goes_of (by kernel_rfl)) (by kernel_rfl) (by kernel_rfl) (fun _ => rfl) ((fun nV w h => hearsR_calls (nV 0) (nV 1) b w (h.reads (id := 0) (kd := .ro) (e := 65) (by kernel_rfl)) (h.reads (id := 1) (kd := .ro) (e := 70) (by kernel_rfl)) (by first | assumption | omega | exact checkR_valid hl0 (by assumption) | exact askR_valid hl0 (by assumption)))) ?_
  refine WPO_all tt_ok (by kernel_rfl) ?_
  refine WP_seq (WP_seq (WP_region (WPO_all tt_ok (by kernel_rfl) ?_)))
  refine WP_cond (((hearsR b).length : Int) == 0) (by kernel_rfl) (fun hc6 => ?_) (fun hc6 => ?_)
  · have hc6' := hc6; try simp only [Bool.and_eq_true, Bool.or_eq_true, Bool.and_eq_false_iff, Bool.or_eq_false_iff, Bool.not_eq_true', Bool.not_eq_false', decide_eq_true_eq, decide_eq_false_iff_not, beq_iff_eq, beq_eq_false_iff_ne, bne_iff_ne, bne_eq_false_iff_eq, ne_eq] at hc6'
    refine WP_seq (WP_region (WPO_all tt_ok (by kernel_rfl) ?_))
    refine WP_ret ?_
    exact ⟨.t [(false, [.v (.slice none 0 0)]), (false, [.int .i64 42])], by kernel_rfl, fun nV w' h => ⟨.slice none 0 0, by rw [show askR b ok = ([], 42) from by unfold askR; simp only [hc2, hc4, hc6, cond_true, cond_false]]; rfl, h.bel, by rw [show askR b ok = ([], 42) from by unfold askR; simp only [hc2, hc4, hc6, cond_true, cond_false]]; exact own_nil _ _ _ _ _⟩⟩
  have hc6' := hc6; try simp only [Bool.and_eq_true, Bool.or_eq_true, Bool.and_eq_false_iff, Bool.or_eq_false_iff, Bool.not_eq_true', Bool.not_eq_false', decide_eq_true_eq, decide_eq_false_iff_not, beq_iff_eq, beq_eq_false_iff_ne, bne_iff_ne, bne_eq_false_iff_eq, ne_eq] at hc6'
  refine WP_skip ?_
  refine WP_seq (WP_region (WPO_all tt_ok (by kernel_rfl) ?_))
  refine WP_ret ?_
  exact ⟨.t [(false, [.ref 3]), (false, [.int .i64 0])], by kernel_rfl, fun nV w' h => ⟨nV 3, by rw [show askR b ok = ((hearsR b), 0) from by unfold askR; simp only [hc2, hc4, hc6, cond_true, cond_false]]; rfl, h.bel, by rw [show askR b ok = ((hearsR b), 0) from by unfold askR; simp only [hc2, hc4, hc6, cond_true, cond_false]]; exact own_of (z := 0) h (by kernel_rfl)⟩⟩
theorem askR_e {b : Book} {ok : Bool} : (askR b ok).2 = if checkR b ≠ 0 then checkR b else if ok then (if (hearsR b).length = 0 then 42 else 0) else 41 := by
  unfold askR
  cases h : (checkR b != 0)
  · simp only [bne_eq_false_iff_eq] at h
    rw [if_neg (by simp [h])]
    cases ok
    · simp
    · simp only [cond_false, Bool.not_true, if_true]
      by_cases h2 : (hearsR b).length = 0
      · rw [if_pos h2, h2]; rfl
      · rw [if_neg h2, show (((hearsR b).length : Int) == 0) = false from by rw [beq_eq_false_iff_ne]; omega]; rfl
  · simp only [bne_iff_ne] at h
    rw [if_pos h]; rfl
theorem askR_valid {b : Book} {ok : Bool} (h1 : (b.ships.length : Int) ≤ 9223372036854775807) (h : (askR b ok).2 = 0) : Valid b := by
  rw [askR_e] at h
  split at h
  · rename_i h2; exact absurd h h2
  · rename_i h2; exact checkR_valid h1 (by simpa using h2)
theorem askR_ok {b : Book} {ok : Bool} (h : (askR b ok).2 = 0) : ok = true ∧ (askR b ok).1 = hearsR b ∧ 0 < (hearsR b).length := by
  have h0 := h
  rw [askR_e] at h
  split at h
  · rename_i h2; exact absurd h h2
  · rename_i h2
    have hz : checkR b = 0 := by simpa using h2
    cases ok
    · simp at h
    · simp only [if_true] at h
      split at h
      · simp at h
      · rename_i h3
        refine ⟨rfl, ?_, by omega⟩
        unfold askR
        rw [show (checkR b != 0) = false from by rw [hz]; rfl, show (((hearsR b).length : Int) == 0) = false from by rw [beq_eq_false_iff_ne]; omega]
        rfl
end Go.Proofs.YtamimgmoomcipaaDoor.Rf
namespace Go.Proofs.YtamimgmoomcipaaDoor.Rf
open Go Go.Proofs.YtamimgmoomcipaaDoor.Eng Go.Proofs.YtamimgmoomcipaaDoor.Fw
set_option linter.unusedVariables false
set_option linter.unusedSimpArgs false
theorem distR_eq {b : Book} {k : Nat} {c : Crs} {m : Int} (hv : Valid b) (hk : k < b.ships.length) (ha : 0 ≤ c.aw ∧ c.aw ≤ 1000) (hs : 0 ≤ c.sp ∧ c.sp ≤ 1000) (hm : 0 ≤ m ∧ m ≤ 900) : distR b k c m = awayF b k c.aw c.sp m := by
  have hsh := (hv.ship hk).1
  unfold distR awayF
  rw [Int.toNat_natCast, mx_spec]
  have h1 := mul_small hs (d := m - (b.ships.getD k zShip).m) (by omega)
  rw [wrapI (x := m - (b.ships.getD k zShip).m) (by omega) (by omega), wrapI (x := c.sp * _) (by omega) (by omega), wrapI (x := c.aw - _) (by omega) (by omega), wrapI (by omega) (by omega)]
  congr 1; omega
theorem nearR_eq {b : Book} {k : Nat} {c : Crs} {m : Nat} (hv : Valid b) (hk : k < b.ships.length) (ha : 0 ≤ c.aw ∧ c.aw ≤ 1000) (hs : 0 ≤ c.sp ∧ c.sp ≤ 1000) (hm : m ≤ 900) : nearR b k c m = nearF b k c.aw c.sp m := by
  unfold nearR nearF
  rw [distR_eq hv hk ha hs (by omega), Int.toNat_natCast]
def okSees (b : Book) (k : Nat) (c : Crs) : Bool := (List.range b.sights.length).all fun j => ((b.sights.getD j zSight).ship != (k : Int)) || containsF (b.sights.getD j zSight).aw (distR b k c (b.sights.getD j zSight).m)
theorem coursesR_eq {b : Book} {k : Nat} {hear : Int} (hv : Valid b) (hk : k < b.ships.length) : coursesR b k hear = (List.range (min (b.ships.getD k zShip).aw.hi hear - (b.ships.getD k zShip).aw.lo + 1).toNat).flatMap fun i : Nat => (List.range ((b.ships.getD k zShip).sp.hi - (b.ships.getD k zShip).sp.lo + 1).toNat).flatMap fun j : Nat =>
    bif okSees b k ⟨(b.ships.getD k zShip).aw.lo + i, (b.ships.getD k zShip).sp.lo + j⟩ then [⟨(b.ships.getD k zShip).aw.lo + i, (b.ships.getD k zShip).sp.lo + j⟩] else [] := by
  unfold coursesR
  simp only [Int.toNat_natCast, mn_spec]
  rw [loopR_app (fun i : Nat => (List.range ((b.ships.getD k zShip).sp.hi - (b.ships.getD k zShip).sp.lo + 1).toNat).flatMap fun j : Nat =>
    bif okSees b k ⟨(b.ships.getD k zShip).aw.lo + i, (b.ships.getD k zShip).sp.lo + j⟩ then [⟨(b.ships.getD k zShip).aw.lo + i, (b.ships.getD k zShip).sp.lo + j⟩] else []) (fun i v hi => by simp only [coursesR_c1, Int.toNat_natCast, mn_spec]; rw [decide_eq_true]; omega) (fun i v hi => ?_)]
  · simp
  · simp only [coursesR_b1, Int.toNat_natCast]
    rw [loopR_app (fun j : Nat => bif okSees b k ⟨(b.ships.getD k zShip).aw.lo + i, (b.ships.getD k zShip).sp.lo + j⟩ then [⟨(b.ships.getD k zShip).aw.lo + i, (b.ships.getD k zShip).sp.lo + j⟩] else []) (fun j v hj => by simp only [coursesR_c2, Int.toNat_natCast]; rw [decide_eq_true]; omega) (fun j v hj => ?_)]
    simp only [coursesR_b2, Int.toNat_natCast]
    rw [loopR_and (fun q => ((b.sights.getD q zSight).ship != (k : Int)) || containsF (b.sights.getD q zSight).aw (distR b k ⟨(b.ships.getD k zShip).aw.lo + i, (b.ships.getD k zShip).sp.lo + j⟩ (b.sights.getD q zSight).m)) (fun q v hq => by simp only [coursesR_c3]; rw [decide_eq_true]; omega) (fun q v hq => by simp only [coursesR_b3, Int.toNat_natCast])]
    simp only [Bool.true_and]
    unfold okSees
    cases (List.range b.sights.length).all _ <;> simp
theorem okSees_eq {b : Book} {k : Nat} {c : Crs} (hv : Valid b) (hk : k < b.ships.length) (ha : 0 ≤ c.aw ∧ c.aw ≤ 1000) (hs : 0 ≤ c.sp ∧ c.sp ≤ 1000) : okSees b k c = rightF b k c.aw c.sp [] := by
  unfold okSees rightF
  rw [Bool.eq_iff_iff]
  simp only [List.all_eq_true, List.mem_range]
  have h : ∀ j, j < b.sights.length → ((((b.sights.getD j zSight).ship != (k : Int)) || containsF (b.sights.getD j zSight).aw (distR b k c (b.sights.getD j zSight).m)) = sightF b k c.aw c.sp [] j) := fun j hj => by
    have hsg := hv.sight hj
    rw [distR_eq hv hk ha hs (by omega)]
    unfold sightF containsF
    rw [insideF_eq]
    simp only [List.not_mem_nil, decide_false, Bool.not_false, Bool.and_true]
    rw [show ((b.sights.getD j zSight).ship != (k : Int)) = !((b.sights.getD j zSight).ship == (k : Int)) from rfl]
    generalize ((b.sights.getD j zSight).ship == (k : Int)) = x
    generalize withinF (awayF b k c.aw c.sp (b.sights.getD j zSight).m) (b.sights.getD j zSight).aw.lo (b.sights.getD j zSight).aw.hi = y
    cases x <;> cases y <;> rfl
  exact ⟨fun g j hj => by rw [← h j hj]; exact g j hj, fun g j hj => by rw [h j hj]; exact g j hj⟩
theorem mem_coursesR {b : Book} {k : Nat} {hear : Int} (hv : Valid b) (hk : k < b.ships.length) {c : Crs} : c ∈ coursesR b k hear ↔ ((b.ships.getD k zShip).aw.lo ≤ c.aw ∧ c.aw ≤ (b.ships.getD k zShip).aw.hi ∧ c.aw ≤ hear) ∧ ((b.ships.getD k zShip).sp.lo ≤ c.sp ∧ c.sp ≤ (b.ships.getD k zShip).sp.hi) ∧ rightF b k c.aw c.sp [] = true := by
  have hsh := hv.ship hk
  rw [coursesR_eq hv hk]
  simp only [List.mem_flatMap, List.mem_range]
  constructor
  · rintro ⟨i, hi, j, hj, h⟩
    cases ho : okSees b k ⟨(b.ships.getD k zShip).aw.lo + i, (b.ships.getD k zShip).sp.lo + j⟩
    · rw [ho] at h; simp at h
    · rw [ho] at h
      simp only [cond_true, List.mem_singleton] at h
      subst h
      rw [okSees_eq hv hk (by simp only; omega) (by simp only; omega)] at ho
      refine ⟨?_, ?_, ho⟩
      · simp only; omega
      · simp only; omega
  · rintro ⟨h1, h2, h3⟩
    refine ⟨(c.aw - (b.ships.getD k zShip).aw.lo).toNat, by omega, (c.sp - (b.ships.getD k zShip).sp.lo).toNat, by omega, ?_⟩
    have e1 : (b.ships.getD k zShip).aw.lo + ((c.aw - (b.ships.getD k zShip).aw.lo).toNat : Int) = c.aw := by omega
    have e2 : (b.ships.getD k zShip).sp.lo + ((c.sp - (b.ships.getD k zShip).sp.lo).toNat : Int) = c.sp := by omega
    rw [e1, e2, okSees_eq hv hk (by simp only; omega) (by simp only; omega)]
    simp [h3]
theorem mem_coursesF {b : Book} {k : Nat} {but : List Int} (hv : Valid b) (hk : k < b.ships.length) {c : Int × Int} : c ∈ coursesF b k but ↔ ((b.ships.getD k zShip).aw.lo ≤ c.1 ∧ c.1 ≤ (b.ships.getD k zShip).aw.hi ∧ c.1 ≤ b.hear.hi) ∧ ((b.ships.getD k zShip).sp.lo ≤ c.2 ∧ c.2 ≤ (b.ships.getD k zShip).sp.hi) ∧ rightF b k c.1 c.2 but = true := by
  have hsh := hv.ship hk
  constructor
  · intro h
    obtain ⟨i, j, hi, hj, rfl, ho⟩ := mem_preC h
    simp only [okC, Bool.and_eq_true, decide_eq_true_eq] at ho
    unfold nA at hi
    unfold nS at hj
    refine ⟨⟨by simp only; omega, by simp only; omega, ho.1⟩, by simp only; omega, ho.2⟩
  · rintro ⟨h1, h2, h3⟩
    unfold coursesF preC
    simp only [List.mem_flatMap, List.mem_range, rowC, List.mem_filter, List.mem_map]
    refine ⟨(c.1 - (b.ships.getD k zShip).aw.lo).toNat, by unfold nA; omega, ⟨(c.2 - (b.ships.getD k zShip).sp.lo).toNat, by unfold nS; omega, ?_⟩, ?_⟩
    · exact Prod.ext (by simp only; omega) (by simp only; omega)
    · simp only [okC, Bool.and_eq_true, decide_eq_true_eq]; exact ⟨h1.2.2, h3⟩
theorem courses_both {b : Book} {k : Nat} {hear : Int} (hv : Valid b) (hk : k < b.ships.length) (hh : hear ≤ b.hear.hi) {c : Crs} : c ∈ coursesR b k hear ↔ (c.aw, c.sp) ∈ coursesF b k [] ∧ c.aw ≤ hear := by
  rw [mem_coursesR hv hk, mem_coursesF hv hk]
  constructor
  · rintro ⟨h1, h2, h3⟩; exact ⟨⟨⟨h1.1, h1.2.1, by simp only; omega⟩, h2, h3⟩, h1.2.2⟩
  · rintro ⟨⟨h1, h2, h3⟩, h4⟩; exact ⟨⟨h1.1, h1.2.1, h4⟩, h2, h3⟩
def canHear (b : Book) (hear : Int) : Bool := (List.range b.ships.length).all fun q => decide (0 < (coursesR b q hear).length)
theorem hearsR_eq (b : Book) : hearsR b = (List.range (b.hear.hi - b.hear.lo + 1).toNat).flatMap fun i : Nat => bif canHear b (b.hear.lo + i) then [b.hear.lo + (i : Int)] else [] := by
  unfold hearsR
  rw [loopR_app (fun i : Nat => bif canHear b (b.hear.lo + i) then [b.hear.lo + (i : Int)] else []) (fun i v hi => by simp only [hearsR_c1]; rw [decide_eq_true]; omega) (fun i v hi => ?_)]
  · simp
  · simp only [hearsR_b1]
    rw [loopR_and (fun q => decide (0 < (coursesR b q (b.hear.lo + i)).length)) (fun q v hq => by simp only [hearsR_c2]; rw [decide_eq_true]; omega) (fun q v hq => by
      simp only [hearsR_b2]
      cases v
      · simp
      · congr 1
        simp only [Bool.true_and, beq_self_eq_true, cond_true]
        rw [Bool.eq_iff_iff]
        simp only [gt_iff_lt, decide_eq_true_eq]
        omega)]
    simp only [Bool.true_and]
    unfold canHear
    cases (List.range b.ships.length).all _ <;> simp
theorem mem_hearsR {b : Book} {x : Int} : x ∈ hearsR b ↔ (b.hear.lo ≤ x ∧ x ≤ b.hear.hi) ∧ canHear b x = true := by
  rw [hearsR_eq]
  simp only [List.mem_flatMap, List.mem_range]
  constructor
  · rintro ⟨i, hi, h⟩
    cases hc : canHear b (b.hear.lo + i)
    · rw [hc] at h; simp at h
    · rw [hc] at h
      simp only [cond_true, List.mem_singleton] at h
      subst h
      exact ⟨by omega, hc⟩
  · rintro ⟨h1, h2⟩
    refine ⟨(x - b.hear.lo).toNat, by omega, ?_⟩
    rw [show b.hear.lo + ((x - b.hear.lo).toNat : Int) = x by omega, h2]
    simp
theorem hearsR_len {b : Book} (hv : Valid b) : (hearsR b).length ≤ 11 := by
  rw [hearsR_eq]
  have : ∀ l : List Nat, (l.flatMap fun i : Nat => bif canHear b (b.hear.lo + i) then [b.hear.lo + (i : Int)] else []).length ≤ l.length := by
    intro l
    induction l with
    | nil => simp
    | cons x r ih =>
      simp only [List.flatMap_cons, List.length_append, List.length_cons]
      have h1 : (bif canHear b (b.hear.lo + (x : Int)) then [b.hear.lo + (x : Int)] else []).length ≤ 1 := by cases canHear b (b.hear.lo + x) <;> simp
      omega
  have h := this (List.range (b.hear.hi - b.hear.lo + 1).toNat)
  rw [List.length_range] at h
  have := hv.hear
  omega
end Go.Proofs.YtamimgmoomcipaaDoor.Rf
namespace Go.Proofs.YtamimgmoomcipaaDoor.Rf
open Go Go.RowKit Go.Proofs.YtamimgmoomcipaaDoor.Eng Go.Proofs.YtamimgmoomcipaaDoor.Fw
set_option linter.unusedVariables false
set_option linter.unusedSimpArgs false
theorem ask_len {b : Book} {ok : Bool} (h1 : (b.ships.length : Int) ≤ 9223372036854775807) (h : (askR b ok).2 = 0) : Valid b ∧ 0 < (askR b ok).1.length ∧ (askR b ok).1.length ≤ 11 := by
  have hv := askR_valid h1 h
  obtain ⟨_, h2, h3⟩ := askR_ok h
  exact ⟨hv, by rw [h2]; exact h3, by rw [h2]; exact hearsR_len hv⟩
def kindR (some : Bool) (each : Bool) : Int :=
  (bif each then 2 else (bif some then 1 else 0))
theorem kindR_calls  (some : Bool) (each : Bool) (w : World)   : Calls Tryd.prog 97 #[.bool some, .bool each] w fun e w' => e = .returned (iv (kindR some each)) ∧ Below w.heap.size w w' := by
  refine calls_of_WP (cx := cx0 w Eng.n0 0) (n := Eng.n0) (vs := [.s (.bool some), .s (.bool each)]) (hp := []) (nx := 0) tt_ok Tryd.func97 rfl rfl rfl (by kernel_rfl) (HSat0 _ _ _ _ _ _ (fun _ => rfl) (Nat.le_refl _)) (vsOk (by kernel_rfl)) ?_
  refine WP_seq (WP_region (WPO_all tt_ok (by kernel_rfl) ?_))
  refine WP_seq (WP_seq (WP_region (WPO_all tt_ok (by kernel_rfl) ?_)))
  refine WP_cond (each) (by kernel_rfl) (fun hc2 => ?_) (fun hc2 => ?_)
  · refine WP_seq (WP_region (WPO_all tt_ok (by kernel_rfl) ?_))
    refine WP_ret ?_
    exact ⟨.s (.int .i64 2), by kernel_rfl, fun nV w' h => ⟨by rw [show kindR some each = 2 from by unfold kindR; simp only [hc2, cond_true, cond_false]]; rfl, h.bel⟩⟩
  refine WP_skip ?_
  refine WP_seq (WP_seq (WP_region (WPO_all tt_ok (by kernel_rfl) ?_)))
  refine WP_cond (some) (by kernel_rfl) (fun hc4 => ?_) (fun hc4 => ?_)
  · refine WP_seq (WP_region (WPO_all tt_ok (by kernel_rfl) ?_))
    refine WP_ret ?_
    exact ⟨.s (.int .i64 1), by kernel_rfl, fun nV w' h => ⟨by rw [show kindR some each = 1 from by unfold kindR; simp only [hc2, hc4, cond_true, cond_false]]; rfl, h.bel⟩⟩
  refine WP_skip ?_
  refine WP_seq (WP_region (WPO_all tt_ok (by kernel_rfl) ?_))
  refine WP_ret ?_
  exact ⟨.s (.int .i64 0), by kernel_rfl, fun nV w' h => ⟨by rw [show kindR some each = 0 from by unfold kindR; simp only [hc2, hc4, cond_true, cond_false]]; rfl, h.bel⟩⟩
def meetsR_c1 (b : Book) (ship : Int) (c : Crs) (begin : Int) (k1 : Nat) : Unit → Bool := fun _ => decide ((begin + (k1 : Int)) < (IntKind.i64.wrap ((IntKind.i64.wrap (begin + b.cr)) + b.sl)))
def meetsR_b1 (b : Book) (ship : Int) (c : Crs) (begin : Int) (k1 : Nat) : Unit → Bd Unit Bool := fun _ => (bif (nearR b ship c (begin + (k1 : Int))) then .ret true else .go ())
def meetsR (b : Book) (ship : Int) (c : Crs) (begin : Int) : Bool :=
  (match loopR (meetsR_c1 b ship c begin) (meetsR_b1 b ship c begin) ((IntKind.i64.wrap ((IntKind.i64.wrap (begin + b.cr)) + b.sl)) - begin : Int).toNat 0 () with | .brk () => false | .ret r => r)
theorem meetsR_calls (g0 g1 : Value) (b : Book) (ship : Int) (c : Crs) (begin : Int) (w : World) (r0 : Reads w g0 5 b.ships encShip zShip) (r1 : Reads w g1 4 b.sights encSight zSight) (hs : 0 ≤ ship ∧ ship < b.ships.length) (hv : Valid b) (hb : 0 ≤ begin ∧ begin ≤ 60) : Calls Tryd.prog 112 #[.agg #[g0, iv b.hear.lo, iv b.hear.hi, iv b.br, iv b.cr, iv b.sl, g1], iv ship, .agg #[iv c.aw, iv c.sp], iv begin] w fun e w' => e = .returned (.bool (meetsR b ship c begin)) ∧ Below w.heap.size w w' := by
  refine calls_of_WP (cx := cx0 w (vn [g0, g1]) 2) (n := vn [g0, g1]) (vs := [.g [.ref 0, .int .i64 b.hear.lo, .int .i64 b.hear.hi, .int .i64 b.br, .int .i64 b.cr, .int .i64 b.sl, .ref 1], .s (.int .i64 ship), .g [.int .i64 c.aw, .int .i64 c.sp], .s (.int .i64 begin)]) (hp := [(0, .sl .ro 65 5 b.ships encShip zShip), (1, .sl .ro 70 4 b.sights encSight zSight)]) (nx := 2) tt_ok Tryd.func112 rfl rfl rfl (by kernel_rfl) (HSat_args (vn_one (by simp [r0.one, r1.one])) (Nat.le_refl _) ⟨⟨⟨fun _ => rfl, by decide, r0⟩, (Nat.le_of_ble_eq_true rfl)⟩, ⟨⟨fun _ => rfl, by decide, r1⟩, (Nat.le_of_ble_eq_true rfl)⟩, trivial⟩) (vsOk (by kernel_rfl)) ?_
  have hl0 := Reads.len r0
  have hl1 := Reads.len r1
  have hbc := hv.cr
  have hbl := hv.sl
  have hw : IntKind.i64.wrap (IntKind.i64.wrap (begin + b.cr) + b.sl) = begin + b.cr + b.sl := by rw [wrapI (x := begin + b.cr) (by omega) (by omega), wrapI (by omega) (by omega)]
  refine WP_seq (WP_region (WPO_all tt_ok (by kernel_rfl) ?_))
  refine WP_seq (WP_seq (WP_region (WPO_all tt_ok (by kernel_rfl) ?_)))
  refine WP_loopA (ρ := Bool) (meetsR_c1 b ship c begin) (meetsR_b1 b ship c begin) ((IntKind.i64.wrap ((IntKind.i64.wrap (begin + b.cr)) + b.sl)) - begin : Int).toNat () (fun k : Nat => (begin + (k : Int))) (fun (ci : Int) (zz : Unit) => ⟨27, [(9, [], .s (.int .i64 ci)), (6, [], .s (.p 3 0)), (4, [], .s (.p 2 0)), (1, [], .s (.int .i64 ship)), (3, [], .s (.int .i64 begin))], [(3, .box 124 [.int .i64 c.aw, .int .i64 c.sp]), (2, .box 27 [.ref 0, .int .i64 b.hear.lo, .int .i64 b.hear.hi, .int .i64 b.br, .int .i64 b.cr, .int .i64 b.sl, .ref 1]), (0, .sl .ro 65 5 b.ships encShip zShip), (1, .sl .ro 70 4 b.sights encSight zSight)], 4, []⟩) (fun zz : Unit => ⟨27, [], [(3, .box 124 [.int .i64 c.aw, .int .i64 c.sp]), (2, .box 27 [.ref 0, .int .i64 b.hear.lo, .int .i64 b.hear.hi, .int .i64 b.br, .int .i64 b.cr, .int .i64 b.sl, .ref 1]), (0, .sl .ro 65 5 b.ships encShip zShip), (1, .sl .ro 70 4 b.sights encSight zSight)], 4, []⟩) (fun k zz => True) trivial ⟨begin, by simp, Le_sel (ts := [9, 6, 4, 1, 3]) (ids := [3, 2, 0, 1]) (nx := 4) (by kernel_rfl)⟩ ?_ ?_
  · intro k1 zz hn1 hp1 hi1 Q1 hq1 ho1
    refine WP_seq (WP_seq (WP_region (WPO_all tt_ok (by kernel_rfl) ?_)))
    refine WP_cond (decide ((begin + (k1 : Int)) < (IntKind.i64.wrap ((IntKind.i64.wrap (begin + b.cr)) + b.sl)))) (by kernel_rfl) (fun hc1 => ?_) (fun hc1 => ?_)
    rotate_left
    · refine WP_exit ?_
      show Q1 (.exit 0) _
      exact LA_exit hq1 () (loopR_end hi1 hc1) ⟨k1, hn1, hp1⟩ (Le_sel (ts := []) (ids := [3, 2, 0, 1]) (nx := 4) (by kernel_rfl))
    have hc1' := of_decide_eq_true hc1
    have hk1 : k1 < ((IntKind.i64.wrap ((IntKind.i64.wrap (begin + b.cr)) + b.sl)) - begin : Int).toNat := by omega
    refine WP_skip ?_
    refine WP_seq (WP_block ?_)
    refine WP_seq (WP_region (WPO_run tt_ok 4 (by kernel_rfl) ?_))
    refine CALL 96 [.g [.ref 0, .int .i64 b.hear.lo, .int .i64 b.hear.hi, .int .i64 b.br, .int .i64 b.cr, .int .i64 b.sl, .ref 1], .s (.int .i64 ship), .g [.int .i64 c.aw, .int .i64 c.sp], .s (.int .i64 (begin + (k1 : Int)))] (.s (.bool (nearR b ship c (begin + (k1 : Int))))) [] (by kernel_rfl) (goes_of (by kernel_rfl)) (by kernel_rfl) (by kernel_rfl) (fun _ nV w h => nearR_calls (nV 0) (nV 1) b ship c (begin + (k1 : Int)) w (h.reads (id := 0) (kd := .ro) (e := 65) (by kernel_rfl)) (h.reads (id := 1) (kd := .ro) (e := 70) (by kernel_rfl)) (by first | assumption | omega | exact checkR_valid hl0 (by assumption) | exact askR_valid hl0 (by assumption))) ?_
    refine WPO_nil ?_
    refine WP_cond ((nearR b ship c (begin + (k1 : Int)))) (by kernel_rfl) (fun hc3 => ?_) (fun hc3 => ?_)
    · refine WP_seq (WP_region (WPO_all tt_ok (by kernel_rfl) ?_))
      refine WP_ret ?_
      show Q1 .ret _
      refine LA_ret hq1 ?_
      have he4 := loopR_ret (r := true) hi1 hk1 hc1 (by unfold meetsR_b1; simp only [hc3, cond_true, cond_false])
      exact ⟨.s (.bool true), by kernel_rfl, fun nV w' h => ⟨by rw [show meetsR b ship c begin = true from by unfold meetsR; simp only [he4, cond_true, cond_false]]; rfl, h.bel⟩⟩
    refine WP_skip ?_
    refine WP_region (WPO_all tt_ok (by kernel_rfl) ?_)
    show Q1 .normal _
    exact LA_go hq1 (ci := IntKind.i64.wrap ((begin + (k1 : Int)) + 1)) () hk1 (by show _ = (begin + ((k1 + 1 : Nat) : Int)); rw [wrapI (by omega) (by omega)]; omega) (loopR_go hi1 hk1 hc1 (by unfold meetsR_b1; simp only [hc3, cond_true, cond_false])) trivial (Le_sel (ts := [9, 6, 4, 1, 3]) (ids := [3, 2, 0, 1]) (nx := 4) (by kernel_rfl))
  intro zz hR1 hP1 s' hl
  refine WP_le hl ?_
  clear hl s'
  refine WP_seq (WP_region (WPO_all tt_ok (by kernel_rfl) ?_))
  refine WP_ret ?_
  exact ⟨.s (.bool false), by kernel_rfl, fun nV w' h => ⟨by rw [show meetsR b ship c begin = false from by unfold meetsR; simp only [hR1, cond_true, cond_false]]; rfl, h.bel⟩⟩
end Go.Proofs.YtamimgmoomcipaaDoor.Rf
namespace Go.Proofs.YtamimgmoomcipaaDoor.Rf
open Go Go.RowKit Go.Proofs.YtamimgmoomcipaaDoor.Eng Go.Proofs.YtamimgmoomcipaaDoor.Fw
set_option linter.unusedVariables false
set_option linter.unusedSimpArgs false
def clearR_c3 (b : Book) (l : List Int) (begin : Int) (k1 : Nat) (v1_1 : Bool) (v1_2 : Bool) (k2 : Nat) (v2_1 : Bool) (v2_2 : Bool) (k3 : Nat) : (Bool × Bool) → Bool := fun (v3_1, v3_2) => decide ((k3 : Int) < ((coursesR b (k2 : Int) (l.getD k1 0)).length : Int))
def clearR_b3 (b : Book) (l : List Int) (begin : Int) (k1 : Nat) (v1_1 : Bool) (v1_2 : Bool) (k2 : Nat) (v2_1 : Bool) (v2_2 : Bool) (k3 : Nat) : (Bool × Bool) → Bd (Bool × Bool) Int := fun (v3_1, v3_2) => .go (v3_1 || (!(meetsR b (k2 : Int) ((coursesR b (k2 : Int) (l.getD k1 0)).getD k3 zCrs) begin)), v3_2 && (!(meetsR b (k2 : Int) ((coursesR b (k2 : Int) (l.getD k1 0)).getD k3 zCrs) begin)))
def clearR_c2 (b : Book) (l : List Int) (begin : Int) (k1 : Nat) (v1_1 : Bool) (v1_2 : Bool) (k2 : Nat) : (Bool × Bool) → Bool := fun (v2_1, v2_2) => decide ((k2 : Int) < (b.ships.length : Int))
def clearR_b2 (b : Book) (l : List Int) (begin : Int) (k1 : Nat) (v1_1 : Bool) (v1_2 : Bool) (k2 : Nat) : (Bool × Bool) → Bd (Bool × Bool) Int := fun (v2_1, v2_2) => (match loopR (clearR_c3 b l begin k1 v1_1 v1_2 k2 v2_1 v2_2) (clearR_b3 b l begin k1 v1_1 v1_2 k2 v2_1 v2_2) (coursesR b (k2 : Int) (l.getD k1 0)).length 0 (false, v2_2) with | .brk (u3_0, u3_1) => .go (v2_1 && u3_0, u3_1) | .ret r => .ret r)
def clearR_c1 (b : Book) (l : List Int) (begin : Int) (k1 : Nat) : (Bool × Bool) → Bool := fun (v1_1, v1_2) => decide ((k1 : Int) < (l.length : Int))
def clearR_b1 (b : Book) (l : List Int) (begin : Int) (k1 : Nat) : (Bool × Bool) → Bd (Bool × Bool) Int := fun (v1_1, v1_2) => (match loopR (clearR_c2 b l begin k1 v1_1 v1_2) (clearR_b2 b l begin k1 v1_1 v1_2) b.ships.length 0 (true, v1_1) with | .brk (u2_0, u2_1) => .go (u2_1, v1_2 || u2_0) | .ret r => .ret r)
def clearR (b : Book) (l : List Int) (begin : Int) : Int :=
  (match loopR (clearR_c1 b l begin) (clearR_b1 b l begin) l.length 0 (true, false) with | .brk (u1_0, u1_1) => (kindR u1_1 u1_0) | .ret r => r)
theorem clearR_calls (g0 g1 g2 : Value) (b : Book) (l : List Int) (begin : Int) (w : World) (r0 : Reads w g0 5 b.ships encShip zShip) (r1 : Reads w g1 4 b.sights encSight zSight) (r2 : Reads w g2 1 l encI 0) (hv : Valid b) (hb : 0 ≤ begin ∧ begin ≤ 60) : Calls Tryd.prog 100 #[.agg #[g0, iv b.hear.lo, iv b.hear.hi, iv b.br, iv b.cr, iv b.sl, g1], g2, iv begin] w fun e w' => e = .returned (iv (clearR b l begin)) ∧ Below w.heap.size w w' := by
  refine calls_of_WP (cx := cx0 w (vn [g0, g1, g2]) 3) (n := vn [g0, g1, g2]) (vs := [.g [.ref 0, .int .i64 b.hear.lo, .int .i64 b.hear.hi, .int .i64 b.br, .int .i64 b.cr, .int .i64 b.sl, .ref 1], .s (.ref 2), .s (.int .i64 begin)]) (hp := [(0, .sl .ro 65 5 b.ships encShip zShip), (1, .sl .ro 70 4 b.sights encSight zSight), (2, .sl .ro 3 1 l encI 0)]) (nx := 3) tt_ok Tryd.func100 rfl rfl rfl (by kernel_rfl) (HSat_args (vn_one (by simp [r0.one, r1.one, r2.one])) (Nat.le_refl _) ⟨⟨⟨fun _ => rfl, by decide, r0⟩, (Nat.le_of_ble_eq_true rfl)⟩, ⟨⟨fun _ => rfl, by decide, r1⟩, (Nat.le_of_ble_eq_true rfl)⟩, ⟨⟨fun _ => rfl, by decide, r2⟩, (Nat.le_of_ble_eq_true rfl)⟩, trivial⟩) (vsOk (by kernel_rfl)) ?_
  have hl0 := Reads.len r0
  have hl1 := Reads.len r1
  have hl2 := Reads.len r2
  refine WP_seq (WP_region (WPO_all tt_ok (by kernel_rfl) ?_))
  refine WP_seq (WP_region (WPO_all tt_ok (by kernel_rfl) ?_))
  refine WP_seq (WP_seq (WP_region (WPO_all tt_ok (by kernel_rfl) ?_)))
  refine WP_loopA (ρ := Int) (clearR_c1 b l begin) (clearR_b1 b l begin) l.length (true, false) (fun k : Nat => (k : Int)) (fun (ci : Int) (zz : Bool × Bool) => ⟨70, [(9, [], .s (.int .i64 ci)), (8, [], .s (.bool zz.1)), (7, [], .s (.bool zz.2)), (3, [], .s (.p 3 0)), (1, [], .s (.ref 2)), (2, [], .s (.int .i64 begin))], [(3, .box 27 [.ref 0, .int .i64 b.hear.lo, .int .i64 b.hear.hi, .int .i64 b.br, .int .i64 b.cr, .int .i64 b.sl, .ref 1]), (0, .sl .ro 65 5 b.ships encShip zShip), (1, .sl .ro 70 4 b.sights encSight zSight), (2, .sl .ro 3 1 l encI 0)], 4, []⟩) (fun zz : Bool × Bool => ⟨70, [(8, [], .s (.bool zz.1)), (7, [], .s (.bool zz.2))], [(3, .box 27 [.ref 0, .int .i64 b.hear.lo, .int .i64 b.hear.hi, .int .i64 b.br, .int .i64 b.cr, .int .i64 b.sl, .ref 1]), (0, .sl .ro 65 5 b.ships encShip zShip), (1, .sl .ro 70 4 b.sights encSight zSight), (2, .sl .ro 3 1 l encI 0)], 4, []⟩) (fun k zz => True) trivial ⟨0, rfl, Le_sel (ts := [9, 8, 7, 3, 1, 2]) (ids := [3, 0, 1, 2]) (nx := 4) (by kernel_rfl)⟩ ?_ ?_
  · intro k1 zz hn1 hp1 hi1 Q1 hq1 ho1
    obtain ⟨v1_1, v1_2⟩ := zz
    refine WP_seq (WP_seq (WP_region (WPO_all tt_ok (by kernel_rfl) ?_)))
    refine WP_cond (decide ((k1 : Int) < (l.length : Int))) (by kernel_rfl) (fun hc1 => ?_) (fun hc1 => ?_)
    rotate_left
    · refine WP_exit ?_
      show Q1 (.exit 0) _
      exact LA_exit hq1 (v1_1, v1_2) (loopR_end hi1 hc1) ⟨k1, hn1, hp1⟩ (Le_sel (ts := [8, 7]) (ids := [3, 0, 1, 2]) (nx := 4) (by kernel_rfl))
    have hc1' := of_decide_eq_true hc1
    have hk1 : k1 < l.length := by omega
    refine WP_skip ?_
    refine WP_seq (WP_block ?_)
    refine WP_seq (WP_region (WPO_all tt_ok (by kernel_rfl) ?_))
    refine WP_seq (WP_seq (WP_region (WPO_all tt_ok (by kernel_rfl) ?_)))
    refine WP_loopA (ρ := Int) (clearR_c2 b l begin k1 v1_1 v1_2) (clearR_b2 b l begin k1 v1_1 v1_2) b.ships.length (true, v1_1) (fun k : Nat => (k : Int)) (fun (ci : Int) (zz : Bool × Bool) => ⟨70, [(11, [], .s (.int .i64 ci)), (10, [], .s (.bool zz.1)), (9, [], .s (.int .i64 (k1 : Int))), (8, [], .s (.bool zz.2)), (7, [], .s (.bool v1_2)), (3, [], .s (.p 3 0)), (1, [], .s (.ref 2)), (2, [], .s (.int .i64 begin))], [(3, .box 27 [.ref 0, .int .i64 b.hear.lo, .int .i64 b.hear.hi, .int .i64 b.br, .int .i64 b.cr, .int .i64 b.sl, .ref 1]), (0, .sl .ro 65 5 b.ships encShip zShip), (1, .sl .ro 70 4 b.sights encSight zSight), (2, .sl .ro 3 1 l encI 0)], 4, []⟩) (fun zz : Bool × Bool => ⟨70, [(10, [], .s (.bool zz.1)), (9, [], .s (.int .i64 (k1 : Int))), (8, [], .s (.bool zz.2)), (7, [], .s (.bool v1_2)), (3, [], .s (.p 3 0)), (1, [], .s (.ref 2)), (2, [], .s (.int .i64 begin))], [(3, .box 27 [.ref 0, .int .i64 b.hear.lo, .int .i64 b.hear.hi, .int .i64 b.br, .int .i64 b.cr, .int .i64 b.sl, .ref 1]), (0, .sl .ro 65 5 b.ships encShip zShip), (1, .sl .ro 70 4 b.sights encSight zSight), (2, .sl .ro 3 1 l encI 0)], 4, []⟩) (fun k zz => True) trivial ⟨0, rfl, Le_sel (ts := [11, 10, 9, 8, 7, 3, 1, 2]) (ids := [3, 0, 1, 2]) (nx := 4) (by kernel_rfl)⟩ ?_ ?_
    · intro k2 zz hn2 hp2 hi2 Q2 hq2 ho2
      obtain ⟨v2_1, v2_2⟩ := zz
      refine WP_seq (WP_seq (WP_region (WPO_all tt_ok (by kernel_rfl) ?_)))
      refine WP_cond (decide ((k2 : Int) < (b.ships.length : Int))) (by kernel_rfl) (fun hc2 => ?_) (fun hc2 => ?_)
      rotate_left
      · refine WP_exit ?_
        show Q2 (.exit 2) _
        exact LA_exit hq2 (v2_1, v2_2) (loopR_end hi2 hc2) ⟨k2, hn2, hp2⟩ (Le_sel (ts := [10, 9, 8, 7, 3, 1, 2]) (ids := [3, 0, 1, 2]) (nx := 4) (by kernel_rfl))
      have hc2' := of_decide_eq_true hc2
      have hk2 : k2 < b.ships.length := by omega
      refine WP_skip ?_
      refine WP_seq (WP_block ?_)
      refine WP_seq (WP_drawH [] (by kernel_rfl) (by kernel_rfl) ?_)
      refine H_run tt_ok [0, 1, 2, 3] (f' := 5) (by kernel_rfl) (by kernel_rfl) (by kernel_rfl) ?_
      refine H_IX tt_ok 4 (k1 : Int) l.length [] (by kernel_rfl) (fun hG => ⟨by omega, by omega⟩) (by kernel_rfl) (by kernel_rfl) ?_
      refine H_run tt_ok [5] (f' := 3) (by kernel_rfl) (by kernel_rfl) (by kernel_rfl) ?_
      refine H_step 6 (by kernel_rfl) (by kernel_rfl) (fun hfz cx' hx1 hx2 => ?_)
      refine CALLO 110 [.g [.ref 0, .int .i64 b.hear.lo, .int .i64 b.hear.hi, .int .i64 b.br, .int .i64 b.cr, .int .i64 b.sl, .ref 1], .s (.int .i64 (k2 : Int)), .s (.int .i64 (l.getD k1 0))] (.s (.ref 4)) 124 2 (coursesR b (k2 : Int) (l.getD k1 0)) encCrs zCrs 4 (by kernel_rfl) (by kernel_rfl) (goes_of (by kernel_rfl)) (by kernel_rfl) (by kernel_rfl) (fun _ => rfl) ((fun nV w h => coursesR_calls (nV 0) (nV 1) b (k2 : Int) (l.getD k1 0) w (h.reads (id := 0) (kd := .ro) (e := 65) (by kernel_rfl)) (h.reads (id := 1) (kd := .ro) (e := 70) (by kernel_rfl)) (by first | assumption | omega | exact checkR_valid hl0 (by assumption) | exact askR_valid hl0 (by assumption)) (by first | assumption | omega | exact checkR_valid hl0 (by assumption) | exact askR_valid hl0 (by assumption)))) ?_
      refine WPO_end (by kernel_rfl) ⟨rfl, (hfz.fnds [3, 0, 1, 2] (by kernel_rfl) ⟨by kernel_rfl, by kernel_rfl, by kernel_rfl, by kernel_rfl, trivial⟩ (by kernel_rfl)), ?_⟩
      refine H_run tt_ok [7, 8] (f' := 0) (by kernel_rfl) (by kernel_rfl) (by kernel_rfl) ?_
      refine H_done (by kernel_rfl) ?_
      refine WP_seq (WP_seq (WP_region (WPO_all tt_ok (by kernel_rfl) ?_)))
      refine WP_fact (p := ((coursesR b (k2 : Int) (l.getD k1 0)).length : Int) ≤ 9223372036854775807) (fun nV aV wV hs => Reads.len (sz := 2) (enc := encCrs) (z := zCrs) (hs.heap.reads (id := 4) (kd := .own) (e := 124) (by kernel_rfl))) (fun hN3 => ?_)
      refine WP_loopA (ρ := Int) (clearR_c3 b l begin k1 v1_1 v1_2 k2 v2_1 v2_2) (clearR_b3 b l begin k1 v1_1 v1_2 k2 v2_1 v2_2) (coursesR b (k2 : Int) (l.getD k1 0)).length (false, v2_2) (fun k : Nat => (k : Int)) (fun (ci : Int) (zz : Bool × Bool) => ⟨70, [(14, [], .s (.int .i64 ci)), (13, [], .s (.bool zz.1)), (12, [], .s (.ref 4)), (11, [], .s (.int .i64 (k2 : Int))), (10, [], .s (.bool v2_1)), (9, [], .s (.int .i64 (k1 : Int))), (8, [], .s (.bool zz.2)), (7, [], .s (.bool v1_2)), (3, [], .s (.p 3 0)), (1, [], .s (.ref 2)), (2, [], .s (.int .i64 begin))], [(4, .sl .own 124 2 (coursesR b (k2 : Int) (l.getD k1 0)) encCrs zCrs), (3, .box 27 [.ref 0, .int .i64 b.hear.lo, .int .i64 b.hear.hi, .int .i64 b.br, .int .i64 b.cr, .int .i64 b.sl, .ref 1]), (0, .sl .ro 65 5 b.ships encShip zShip), (1, .sl .ro 70 4 b.sights encSight zSight), (2, .sl .ro 3 1 l encI 0)], 5, []⟩) (fun zz : Bool × Bool => ⟨70, [(13, [], .s (.bool zz.1)), (11, [], .s (.int .i64 (k2 : Int))), (10, [], .s (.bool v2_1)), (9, [], .s (.int .i64 (k1 : Int))), (8, [], .s (.bool zz.2)), (7, [], .s (.bool v1_2)), (3, [], .s (.p 3 0)), (1, [], .s (.ref 2)), (2, [], .s (.int .i64 begin))], [(4, .sl .own 124 2 (coursesR b (k2 : Int) (l.getD k1 0)) encCrs zCrs), (3, .box 27 [.ref 0, .int .i64 b.hear.lo, .int .i64 b.hear.hi, .int .i64 b.br, .int .i64 b.cr, .int .i64 b.sl, .ref 1]), (0, .sl .ro 65 5 b.ships encShip zShip), (1, .sl .ro 70 4 b.sights encSight zSight), (2, .sl .ro 3 1 l encI 0)], 5, []⟩) (fun k zz => True) trivial ⟨0, rfl, Le_sel (ts := [14, 13, 12, 11, 10, 9, 8, 7, 3, 1, 2]) (ids := [4, 3, 0, 1, 2]) (nx := 5) (by kernel_rfl)⟩ ?_ ?_
      · intro k3 zz hn3 hp3 hi3 Q3 hq3 ho3
        obtain ⟨v3_1, v3_2⟩ := zz
        refine WP_seq (WP_seq (WP_region (WPO_all tt_ok (by kernel_rfl) ?_)))
        refine WP_cond (decide ((k3 : Int) < ((coursesR b (k2 : Int) (l.getD k1 0)).length : Int))) (by kernel_rfl) (fun hc3 => ?_) (fun hc3 => ?_)
        rotate_left
        · refine WP_exit ?_
          show Q3 (.exit 4) _
          exact LA_exit hq3 (v3_1, v3_2) (loopR_end hi3 hc3) ⟨k3, hn3, hp3⟩ (Le_sel (ts := [13, 11, 10, 9, 8, 7, 3, 1, 2]) (ids := [4, 3, 0, 1, 2]) (nx := 5) (by kernel_rfl))
        have hc3' := of_decide_eq_true hc3
        have hk3 : k3 < (coursesR b (k2 : Int) (l.getD k1 0)).length := by omega
        refine WP_skip ?_
        refine WP_seq (WP_block ?_)
        refine WP_seq (WP_draw (by kernel_rfl) (by kernel_rfl) ?_)
        refine WPQ_run tt_ok 4 (by kernel_rfl) ?_
        refine QIX tt_ok (k3 : Int) (coursesR b (k2 : Int) (l.getD k1 0)).length [] (by kernel_rfl) (fun hG => ⟨by omega, by omega⟩) ?_
        refine WPQ_run tt_ok 2 (by kernel_rfl) ?_
        refine QCALL 112 [.g [.ref 0, .int .i64 b.hear.lo, .int .i64 b.hear.hi, .int .i64 b.br, .int .i64 b.cr, .int .i64 b.sl, .ref 1], .s (.int .i64 (k2 : Int)), .g [.int .i64 ((coursesR b (k2 : Int) (l.getD k1 0)).getD k3 zCrs).aw, .int .i64 ((coursesR b (k2 : Int) (l.getD k1 0)).getD k3 zCrs).sp], .s (.int .i64 begin)] (.s (.bool (meetsR b (k2 : Int) ((coursesR b (k2 : Int) (l.getD k1 0)).getD k3 zCrs) begin))) [] (by kernel_rfl) (goes_of (by kernel_rfl)) (by kernel_rfl) (by kernel_rfl) (fun _ nV w h => meetsR_calls (nV 0) (nV 1) b (k2 : Int) ((coursesR b (k2 : Int) (l.getD k1 0)).getD k3 zCrs) begin w (h.reads (id := 0) (kd := .ro) (e := 65) (by kernel_rfl)) (h.reads (id := 1) (kd := .ro) (e := 70) (by kernel_rfl)) (by first | assumption | omega | exact checkR_valid hl0 (by assumption) | exact askR_valid hl0 (by assumption)) (by first | assumption | omega | exact checkR_valid hl0 (by assumption) | exact askR_valid hl0 (by assumption)) (by first | assumption | omega | exact checkR_valid hl0 (by assumption) | exact askR_valid hl0 (by assumption))) ?_
        refine WPQ_all tt_ok (by kernel_rfl) ?_
        refine WP_region (WPO_all tt_ok (by kernel_rfl) ?_)
        refine WP_region (WPO_all tt_ok (by kernel_rfl) ?_)
        show Q3 .normal _
        exact LA_go hq3 (ci := IntKind.i64.wrap ((k3 : Int) + 1)) (v3_1 || (!(meetsR b (k2 : Int) ((coursesR b (k2 : Int) (l.getD k1 0)).getD k3 zCrs) begin)), v3_2 && (!(meetsR b (k2 : Int) ((coursesR b (k2 : Int) (l.getD k1 0)).getD k3 zCrs) begin))) hk3 (by show _ = ((k3 + 1 : Nat) : Int); rw [wrapI (by omega) (by omega)]; omega) (loopR_go hi3 hk3 hc3 (rfl)) trivial (Le_sel (ts := [14, 13, 12, 11, 10, 9, 8, 7, 3, 1, 2]) (ids := [4, 3, 0, 1, 2]) (nx := 5) (by kernel_rfl))
      intro zz hR3 hP3 s' hl
      obtain ⟨u3_0, u3_1⟩ := zz
      refine WP_le hl ?_
      clear hl s'
      refine WP_region (WPO_all tt_ok (by kernel_rfl) ?_)
      refine WP_region (WPO_all tt_ok (by kernel_rfl) ?_)
      show Q2 .normal _
      exact LA_go hq2 (ci := IntKind.i64.wrap ((k2 : Int) + 1)) (v2_1 && u3_0, u3_1) hk2 (by show _ = ((k2 + 1 : Nat) : Int); rw [wrapI (by omega) (by omega)]; omega) (loopR_go hi2 hk2 hc2 (by unfold clearR_b2; simp only [hR3, cond_true, cond_false])) trivial (Le_sel (ts := [11, 10, 9, 8, 7, 3, 1, 2]) (ids := [3, 0, 1, 2]) (nx := 4) (by kernel_rfl))
    intro zz hR2 hP2 s' hl
    obtain ⟨u2_0, u2_1⟩ := zz
    refine WP_le hl ?_
    clear hl s'
    refine WP_region (WPO_all tt_ok (by kernel_rfl) ?_)
    refine WP_region (WPO_all tt_ok (by kernel_rfl) ?_)
    show Q1 .normal _
    exact LA_go hq1 (ci := IntKind.i64.wrap ((k1 : Int) + 1)) (u2_1, v1_2 || u2_0) hk1 (by show _ = ((k1 + 1 : Nat) : Int); rw [wrapI (by omega) (by omega)]; omega) (loopR_go hi1 hk1 hc1 (by unfold clearR_b1; simp only [hR2, cond_true, cond_false])) trivial (Le_sel (ts := [9, 8, 7, 3, 1, 2]) (ids := [3, 0, 1, 2]) (nx := 4) (by kernel_rfl))
  intro zz hR1 hP1 s' hl
  obtain ⟨u1_0, u1_1⟩ := zz
  refine WP_le hl ?_
  clear hl s'
  refine WP_seq (WP_region (WPO_run tt_ok 2 (by kernel_rfl) ?_))
  refine CALL 97 [.s (.bool u1_1), .s (.bool u1_0)] (.s (.int .i64 (kindR u1_1 u1_0))) [] (by kernel_rfl) (goes_of (by kernel_rfl)) (by kernel_rfl) (by kernel_rfl) (fun _ nV w h => kindR_calls  u1_1 u1_0 w  ) ?_
  refine WPO_all tt_ok (by kernel_rfl) ?_
  refine WP_ret ?_
  exact ⟨.s (.int .i64 (kindR u1_1 u1_0)), by kernel_rfl, fun nV w' h => ⟨by rw [show clearR b l begin = (kindR u1_1 u1_0) from by unfold clearR; simp only [hR1, cond_true, cond_false]]; rfl, h.bel⟩⟩
def freeR_c1 (b : Book) (l : List Int) (k1 : Nat) : (List Int) → Bool := fun v1_1 => decide ((k1 : Int) ≤ 60)
def freeR_b1 (b : Book) (l : List Int) (k1 : Nat) : (List Int) → Bd (List Int) (List Int) := fun v1_1 => (bif (clearR b l (k1 : Int)) == 2 then .go (v1_1 ++ ([(k1 : Int)])) else .go v1_1)
def freeR (b : Book) (l : List Int) : (List Int) :=
  (match loopR (freeR_c1 b l) (freeR_b1 b l) 61 0 ([]) with | .brk u1_0 => u1_0 | .ret r => r)
theorem freeR_calls (g0 g1 g2 : Value) (b : Book) (l : List Int) (w : World) (r0 : Reads w g0 5 b.ships encShip zShip) (r1 : Reads w g1 4 b.sights encSight zSight) (r2 : Reads w g2 1 l encI 0) (hv : Valid b) : Calls Tryd.prog 101 #[.agg #[g0, iv b.hear.lo, iv b.hear.hi, iv b.br, iv b.cr, iv b.sl, g1], g2] w fun e w' => ∃ v0, e = .returned (v0) ∧ Below w.heap.size w w' ∧ w'.ownsRow w.heap.size 3 1 v0 (freeR b l).length (flat (freeR b l) encI) := by
  refine calls_of_WP (cx := cx0 w (vn [g0, g1, g2]) 3) (n := vn [g0, g1, g2]) (vs := [.g [.ref 0, .int .i64 b.hear.lo, .int .i64 b.hear.hi, .int .i64 b.br, .int .i64 b.cr, .int .i64 b.sl, .ref 1], .s (.ref 2)]) (hp := [(0, .sl .ro 65 5 b.ships encShip zShip), (1, .sl .ro 70 4 b.sights encSight zSight), (2, .sl .ro 3 1 l encI 0)]) (nx := 3) tt_ok Tryd.func101 rfl rfl rfl (by kernel_rfl) (HSat_args (vn_one (by simp [r0.one, r1.one, r2.one])) (Nat.le_refl _) ⟨⟨⟨fun _ => rfl, by decide, r0⟩, (Nat.le_of_ble_eq_true rfl)⟩, ⟨⟨fun _ => rfl, by decide, r1⟩, (Nat.le_of_ble_eq_true rfl)⟩, ⟨⟨fun _ => rfl, by decide, r2⟩, (Nat.le_of_ble_eq_true rfl)⟩, trivial⟩) (vsOk (by kernel_rfl)) ?_
  have hl0 := Reads.len r0
  have hl1 := Reads.len r1
  have hl2 := Reads.len r2
  refine WP_seq (WP_region (WPO_all tt_ok (by kernel_rfl) ?_))
  refine WP_seq (WP_region (LIT tt_ok (by kernel_rfl) ?_))
  refine LITSL 4 3 0 1 [] ([] : List Int) encI 0 (by kernel_rfl) rfl (fun _ => rfl) (fun n => rfl) ?_
  refine WPO_all tt_ok (by kernel_rfl) ?_
  refine WP_seq (WP_seq (WP_region (WPO_all tt_ok (by kernel_rfl) ?_)))
  refine WP_loopA (ρ := (List Int)) (freeR_c1 b l) (freeR_b1 b l) 61 ([]) (fun k : Nat => (k : Int)) (fun (ci : Int) (zz : (List Int)) => ⟨22, [(6, [], .s (.int .i64 ci)), (5, [], .s (.ref 5)), (2, [], .s (.p 3 0)), (1, [], .s (.ref 2))], [(5, .sl .own 3 1 zz encI 0), (3, .box 27 [.ref 0, .int .i64 b.hear.lo, .int .i64 b.hear.hi, .int .i64 b.br, .int .i64 b.cr, .int .i64 b.sl, .ref 1]), (0, .sl .ro 65 5 b.ships encShip zShip), (1, .sl .ro 70 4 b.sights encSight zSight), (2, .sl .ro 3 1 l encI 0)], 6, []⟩) (fun zz : (List Int) => ⟨22, [(5, [], .s (.ref 5))], [(5, .sl .own 3 1 zz encI 0), (3, .box 27 [.ref 0, .int .i64 b.hear.lo, .int .i64 b.hear.hi, .int .i64 b.br, .int .i64 b.cr, .int .i64 b.sl, .ref 1]), (0, .sl .ro 65 5 b.ships encShip zShip), (1, .sl .ro 70 4 b.sights encSight zSight), (2, .sl .ro 3 1 l encI 0)], 6, []⟩) (fun (k1 : Nat) (zz : (List Int)) => zz.length ≤ k1) (by simp) ⟨0, rfl, Le_ren [(5, 4)] ⟨by kernel_rfl, by kernel_rfl, by kernel_rfl, by kernel_rfl, by kernel_rfl, trivial⟩ ⟨by kernel_rfl, rfl, by kernel_rfl, by kernel_rfl, rfl, by kernel_rfl, by kernel_rfl, rfl, by kernel_rfl, by kernel_rfl, rfl, by kernel_rfl, trivial⟩ (by kernel_rfl) (by kernel_rfl) (rnm_id (m := 3) (by kernel_rfl)) (by show 3 ≤ 6; decide) (by kernel_rfl) (by kernel_rfl)⟩ ?_ ?_
  · intro k1 v1_1 hn1 hp1 hi1 Q1 hq1 ho1
    replace hp1 : v1_1.length ≤ k1 := hp1
    refine WP_seq (WP_seq (WP_region (WPO_all tt_ok (by kernel_rfl) ?_)))
    refine WP_cond (decide ((k1 : Int) ≤ 60)) (by kernel_rfl) (fun hc1 => ?_) (fun hc1 => ?_)
    rotate_left
    · refine WP_exit ?_
      show Q1 (.exit 0) _
      exact LA_exit hq1 v1_1 (loopR_end hi1 hc1) ⟨k1, hn1, hp1⟩ (Le_sel (ts := [5]) (ids := [5, 3, 0, 1, 2]) (nx := 6) (by kernel_rfl))
    have hc1' := of_decide_eq_true hc1
    have hk1 : k1 < 61 := by omega
    refine WP_skip ?_
    refine WP_seq (WP_block ?_)
    refine WP_seq (WP_region (WPO_run tt_ok 3 (by kernel_rfl) ?_))
    refine CALL 100 [.g [.ref 0, .int .i64 b.hear.lo, .int .i64 b.hear.hi, .int .i64 b.br, .int .i64 b.cr, .int .i64 b.sl, .ref 1], .s (.ref 2), .s (.int .i64 (k1 : Int))] (.s (.int .i64 (clearR b l (k1 : Int)))) [] (by kernel_rfl) (goes_of (by kernel_rfl)) (by kernel_rfl) (by kernel_rfl) (fun _ nV w h => clearR_calls (nV 0) (nV 1) (nV 2) b l (k1 : Int) w (h.reads (id := 0) (kd := .ro) (e := 65) (by kernel_rfl)) (h.reads (id := 1) (kd := .ro) (e := 70) (by kernel_rfl)) (h.reads (id := 2) (kd := .ro) (e := 3) (by kernel_rfl)) (by first | assumption | omega | exact checkR_valid hl0 (by assumption) | exact askR_valid hl0 (by assumption)) (by first | assumption | omega | exact checkR_valid hl0 (by assumption) | exact askR_valid hl0 (by assumption))) ?_
    refine WPO_all tt_ok (by kernel_rfl) ?_
    refine WP_cond ((clearR b l (k1 : Int)) == 2) (by kernel_rfl) (fun hc3 => ?_) (fun hc3 => ?_)
    · have hc3' := hc3; try simp only [Bool.and_eq_true, Bool.or_eq_true, Bool.and_eq_false_iff, Bool.or_eq_false_iff, Bool.not_eq_true', Bool.not_eq_false', decide_eq_true_eq, decide_eq_false_iff_not, beq_iff_eq, beq_eq_false_iff_ne, bne_iff_ne, bne_eq_false_iff_eq, ne_eq] at hc3'
      refine WP_region (WPO_run tt_ok 2 (by kernel_rfl) ?_)
      refine LIT tt_ok (by kernel_rfl) ?_
      refine LITSL 6 3 1 1 [.int .i64 (k1 : Int)] [(k1 : Int)] encI 0 (by kernel_rfl) rfl (fun _ => rfl) (fun n => rfl) ?_
      refine APP tt_ok (.s (.ref 5)) (.s (.ref 6)) 37 3 (some 20) 1 v1_1 ([(k1 : Int)]) encI 0 (by kernel_rfl) (by kernel_rfl) (by kernel_rfl) (by kernel_rfl) (.inr (.inl ⟨5, rfl, (by kernel_rfl)⟩)) (.inr ⟨6, .own, rfl, (by kernel_rfl), (by simp only [List.length_cons, List.length_nil]; omega)⟩) (by simp) (fun y => rfl) (fun y => List.all_eq_true.1 rfl) (fun i hi => (by have hby : (tyL tt 3).map (·.bytes) = some 8 := (by kernel_rfl); rw [hi] at hby; simp only [Option.map_some, Option.some.injEq] at hby; rw [hby]; simp only [List.length_append, List.length_cons, List.length_nil]; omega)) ?_
      refine WPO_all tt_ok (by kernel_rfl) ?_
      refine WP_region (WPO_all tt_ok (by kernel_rfl) ?_)
      show Q1 .normal _
      exact LA_go hq1 (ci := IntKind.i64.wrap ((k1 : Int) + 1)) (v1_1 ++ ([(k1 : Int)])) hk1 (by show _ = ((k1 + 1 : Nat) : Int); rw [wrapI (by omega) (by omega)]; omega) (loopR_go hi1 hk1 hc1 (by unfold freeR_b1; simp only [hc3, cond_true, cond_false])) (by simp only [List.length_append, List.length_cons, List.length_nil]; omega) (Le_ren [(5, 7)] ⟨by kernel_rfl, by kernel_rfl, by kernel_rfl, by kernel_rfl, by kernel_rfl, trivial⟩ ⟨by kernel_rfl, rfl, by kernel_rfl, by kernel_rfl, rfl, by kernel_rfl, by kernel_rfl, rfl, by kernel_rfl, by kernel_rfl, rfl, by kernel_rfl, trivial⟩ (by kernel_rfl) (by kernel_rfl) (rnm_id (m := 3) (by kernel_rfl)) (by show 3 ≤ 6; decide) (by kernel_rfl) (by kernel_rfl))
    have hc3' := hc3; try simp only [Bool.and_eq_true, Bool.or_eq_true, Bool.and_eq_false_iff, Bool.or_eq_false_iff, Bool.not_eq_true', Bool.not_eq_false', decide_eq_true_eq, decide_eq_false_iff_not, beq_iff_eq, beq_eq_false_iff_ne, bne_iff_ne, bne_eq_false_iff_eq, ne_eq] at hc3'
    refine WP_skip ?_
    refine WP_region (WPO_all tt_ok (by kernel_rfl) ?_)
    show Q1 .normal _
    exact LA_go hq1 (ci := IntKind.i64.wrap ((k1 : Int) + 1)) v1_1 hk1 (by show _ = ((k1 + 1 : Nat) : Int); rw [wrapI (by omega) (by omega)]; omega) (loopR_go hi1 hk1 hc1 (by unfold freeR_b1; simp only [hc3, cond_true, cond_false])) (by omega) (Le_sel (ts := [6, 5, 2, 1]) (ids := [5, 3, 0, 1, 2]) (nx := 6) (by kernel_rfl))
  intro u1_0 hR1 hP1 s' hl
  obtain ⟨kP1, hkP1, hpP1⟩ := hP1
  replace hpP1 : u1_0.length ≤ kP1 := hpP1
  refine WP_le hl ?_
  clear hl s'
  refine WP_seq (WP_region (WPO_all tt_ok (by kernel_rfl) ?_))
  refine WP_ret ?_
  exact ⟨.s (.ref 5), by kernel_rfl, fun nV w' h => ⟨nV 5, rfl, h.bel, by rw [show freeR b l = u1_0 from by unfold freeR; simp only [hR1, cond_true, cond_false]]; exact own_of (z := 0) h (by kernel_rfl)⟩⟩
def freeAR (b : Book) : (List Int) × Int :=
  (bif (askR b true).2 != 0 then ([], (askR b true).2) else ((freeR b (askR b true).1), 0))
theorem freeAR_calls (g0 g1 : Value) (b : Book) (w : World) (r0 : Reads w g0 5 b.ships encShip zShip) (r1 : Reads w g1 4 b.sights encSight zSight)  : Calls Tryd.prog 69 #[.agg #[g0, iv b.hear.lo, iv b.hear.hi, iv b.br, iv b.cr, iv b.sl, g1]] w fun e w' => ∃ v0, e = .returned (.tuple #[v0, iv (freeAR b).2]) ∧ Below w.heap.size w w' ∧ w'.ownsRow w.heap.size 3 1 v0 (freeAR b).1.length (flat (freeAR b).1 encI) := by
  refine calls_of_WP (cx := cx0 w (vn [g0, g1]) 2) (n := vn [g0, g1]) (vs := [.g [.ref 0, .int .i64 b.hear.lo, .int .i64 b.hear.hi, .int .i64 b.br, .int .i64 b.cr, .int .i64 b.sl, .ref 1]]) (hp := [(0, .sl .ro 65 5 b.ships encShip zShip), (1, .sl .ro 70 4 b.sights encSight zSight)]) (nx := 2) tt_ok Tryd.func69 rfl rfl rfl (by kernel_rfl) (HSat_args (vn_one (by simp [r0.one, r1.one])) (Nat.le_refl _) ⟨⟨⟨fun _ => rfl, by decide, r0⟩, (Nat.le_of_ble_eq_true rfl)⟩, ⟨⟨fun _ => rfl, by decide, r1⟩, (Nat.le_of_ble_eq_true rfl)⟩, trivial⟩) (vsOk (by kernel_rfl)) ?_
  have hl0 := Reads.len r0
  have hl1 := Reads.len r1
  refine WP_seq (WP_region (WPO_all tt_ok (by kernel_rfl) ?_))
  refine WP_seq (WP_region (WPO_run tt_ok 1 (by kernel_rfl) ?_))
  refine CALLO 94 [.g [.ref 0, .int .i64 b.hear.lo, .int .i64 b.hear.hi, .int .i64 b.br, .int .i64 b.cr, .int .i64 b.sl, .ref 1], .s (.bool true)] (.t [(false, [.ref 3]), (false, [.int .i64 (askR b true).2])]) 3 1 (askR b true).1 encI 0 3 (by kernel_rfl) (by kernel_rfl) (goes_of (by kernel_rfl)) (by kernel_rfl) (by kernel_rfl) (fun _ => rfl) ((fun nV w h => askR_calls (nV 0) (nV 1) b true w (h.reads (id := 0) (kd := .ro) (e := 65) (by kernel_rfl)) (h.reads (id := 1) (kd := .ro) (e := 70) (by kernel_rfl)) )) ?_
  refine WPO_all tt_ok (by kernel_rfl) ?_
  refine WP_seq (WP_seq (WP_region (WPO_all tt_ok (by kernel_rfl) ?_)))
  refine WP_cond ((askR b true).2 != 0) (by kernel_rfl) (fun hc2 => ?_) (fun hc2 => ?_)
  · have hc2' := hc2; try simp only [Bool.and_eq_true, Bool.or_eq_true, Bool.and_eq_false_iff, Bool.or_eq_false_iff, Bool.not_eq_true', Bool.not_eq_false', decide_eq_true_eq, decide_eq_false_iff_not, beq_iff_eq, beq_eq_false_iff_ne, bne_iff_ne, bne_eq_false_iff_eq, ne_eq] at hc2'
    refine WP_seq (WP_region (WPO_all tt_ok (by kernel_rfl) ?_))
    refine WP_ret ?_
    exact ⟨.t [(false, [.v (.slice none 0 0)]), (false, [.int .i64 (askR b true).2])], by kernel_rfl, fun nV w' h => ⟨.slice none 0 0, by rw [show freeAR b = ([], (askR b true).2) from by unfold freeAR; simp only [hc2, cond_true, cond_false]]; rfl, h.bel, by rw [show freeAR b = ([], (askR b true).2) from by unfold freeAR; simp only [hc2, cond_true, cond_false]]; exact own_nil _ _ _ _ _⟩⟩
  have hc2' := hc2; try simp only [Bool.and_eq_true, Bool.or_eq_true, Bool.and_eq_false_iff, Bool.or_eq_false_iff, Bool.not_eq_true', Bool.not_eq_false', decide_eq_true_eq, decide_eq_false_iff_not, beq_iff_eq, beq_eq_false_iff_ne, bne_iff_ne, bne_eq_false_iff_eq, ne_eq] at hc2'
  refine WP_skip ?_
  have hA := ask_len hl0 (by assumption)
  have hv := hA.1
  have hAl := hA.2.1
  have hAm := hA.2.2
  refine WP_seq (WP_region (WPO_run tt_ok 2 (by kernel_rfl) ?_))
  refine CALLO 101 [.g [.ref 0, .int .i64 b.hear.lo, .int .i64 b.hear.hi, .int .i64 b.br, .int .i64 b.cr, .int .i64 b.sl, .ref 1], .s (.ref 3)] (.s (.ref 4)) 3 1 (freeR b (askR b true).1) encI 0 4 (by kernel_rfl) (by kernel_rfl) (goes_of (by kernel_rfl)) (by kernel_rfl) (by kernel_rfl) (fun _ => rfl) ((fun nV w h => freeR_calls (nV 0) (nV 1) (nV 3) b (askR b true).1 w (h.reads (id := 0) (kd := .ro) (e := 65) (by kernel_rfl)) (h.reads (id := 1) (kd := .ro) (e := 70) (by kernel_rfl)) (h.reads (id := 3) (kd := .own) (e := 3) (by kernel_rfl)) (by first | assumption | omega | exact checkR_valid hl0 (by assumption) | exact askR_valid hl0 (by assumption)))) ?_
  refine WPO_all tt_ok (by kernel_rfl) ?_
  refine WP_ret ?_
  exact ⟨.t [(false, [.ref 4]), (false, [.int .i64 0])], by kernel_rfl, fun nV w' h => ⟨nV 4, by rw [show freeAR b = ((freeR b (askR b true).1), 0) from by unfold freeAR; simp only [hc2, cond_true, cond_false]]; rfl, h.bel, by rw [show freeAR b = ((freeR b (askR b true).1), 0) from by unfold freeAR; simp only [hc2, cond_true, cond_false]]; exact own_of (z := 0) h (by kernel_rfl)⟩⟩
end Go.Proofs.YtamimgmoomcipaaDoor.Rf
namespace Go.Proofs.YtamimgmoomcipaaDoor.Rf
open Go Go.RowKit Go.Proofs.YtamimgmoomcipaaDoor.Eng Go.Proofs.YtamimgmoomcipaaDoor.Fw
set_option linter.unusedVariables false
set_option linter.unusedSimpArgs false
def withoutR_c1 (b : Book) (set : Int) (k1 : Nat) : (List Sight) → Bool := fun v1_7 => decide ((k1 : Int) < (b.sights.length : Int))
def withoutR_b1 (b : Book) (set : Int) (k1 : Nat) : (List Sight) → Bd (List Sight) Book := fun v1_7 => (bif !(memberF set (k1 : Int)) then .go (v1_7 ++ ([(b.sights.getD k1 zSight)])) else .go v1_7)
def withoutR (b : Book) (set : Int) : Book :=
  (match loopR (withoutR_c1 b set) (withoutR_b1 b set) b.sights.length 0 ([]) with | .brk u1_0 => (⟨b.ships, b.hear, b.br, b.cr, b.sl, u1_0⟩ : Book) | .ret r => r)
theorem withoutR_calls (g0 g1 : Value) (b : Book) (set : Int) (w : World) (r0 : Reads w g0 5 b.ships encShip zShip) (r1 : Reads w g1 4 b.sights encSight zSight) (hg : b.sights.length ≤ 64) : Calls Tryd.prog 102 #[.agg #[g0, iv b.hear.lo, iv b.hear.hi, iv b.br, iv b.cr, iv b.sl, g1], iv set] w fun e w' => ∃ v0, e = .returned (.agg #[g0, iv (withoutR b set).hear.lo, iv (withoutR b set).hear.hi, iv (withoutR b set).br, iv (withoutR b set).cr, iv (withoutR b set).sl, v0]) ∧ Below w.heap.size w w' ∧ w'.ownsRow w.heap.size 70 4 v0 (withoutR b set).sights.length (flat (withoutR b set).sights encSight) := by
  refine calls_of_WP (cx := cx0 w (vn [g0, g1]) 2) (n := vn [g0, g1]) (vs := [.g [.ref 0, .int .i64 b.hear.lo, .int .i64 b.hear.hi, .int .i64 b.br, .int .i64 b.cr, .int .i64 b.sl, .ref 1], .s (.int .i64 set)]) (hp := [(0, .sl .ro 65 5 b.ships encShip zShip), (1, .sl .ro 70 4 b.sights encSight zSight)]) (nx := 2) tt_ok Tryd.func102 rfl rfl rfl (by kernel_rfl) (HSat_args (vn_one (by simp [r0.one, r1.one])) (Nat.le_refl _) ⟨⟨⟨fun _ => rfl, by decide, r0⟩, (Nat.le_of_ble_eq_true rfl)⟩, ⟨⟨fun _ => rfl, by decide, r1⟩, (Nat.le_of_ble_eq_true rfl)⟩, trivial⟩) (vsOk (by kernel_rfl)) ?_
  have hl0 := Reads.len r0
  have hl1 := Reads.len r1
  refine WP_seq (WP_region (WPO_all tt_ok (by kernel_rfl) ?_))
  refine WP_seq (WP_region (WPO_all tt_ok (by kernel_rfl) ?_))
  refine WP_seq (WP_region (WPO_all tt_ok (by kernel_rfl) ?_))
  refine WP_seq (WP_seq (WP_region (WPO_all tt_ok (by kernel_rfl) ?_)))
  refine WP_loopA (ρ := Book) (withoutR_c1 b set) (withoutR_b1 b set) b.sights.length ([]) (fun k : Nat => (k : Int)) (fun (ci : Int) (zz : (List Sight)) => ⟨31, [(6, [], .s (.int .i64 ci)), (5, [], .s (.p 4 0)), (4, [], .s (.p 3 0)), (2, [], .s (.p 2 0)), (1, [], .s (.int .i64 set))], [(5, .sl .own 70 4 zz encSight zSight), (4, .box 27 [.ref 0, .int .i64 b.hear.lo, .int .i64 b.hear.hi, .int .i64 b.br, .int .i64 b.cr, .int .i64 b.sl, .ref 5]), (3, .box 27 [.v (.slice none 0 0), .int .i64 0, .int .i64 0, .int .i64 0, .int .i64 0, .int .i64 0, .v (.slice none 0 0)]), (2, .box 27 [.ref 0, .int .i64 b.hear.lo, .int .i64 b.hear.hi, .int .i64 b.br, .int .i64 b.cr, .int .i64 b.sl, .ref 1]), (0, .sl .ro 65 5 b.ships encShip zShip), (1, .sl .ro 70 4 b.sights encSight zSight)], 6, []⟩) (fun zz : (List Sight) => ⟨31, [(5, [], .s (.p 4 0)), (4, [], .s (.p 3 0))], [(5, .sl .own 70 4 zz encSight zSight), (4, .box 27 [.ref 0, .int .i64 b.hear.lo, .int .i64 b.hear.hi, .int .i64 b.br, .int .i64 b.cr, .int .i64 b.sl, .ref 5]), (3, .box 27 [.v (.slice none 0 0), .int .i64 0, .int .i64 0, .int .i64 0, .int .i64 0, .int .i64 0, .v (.slice none 0 0)]), (2, .box 27 [.ref 0, .int .i64 b.hear.lo, .int .i64 b.hear.hi, .int .i64 b.br, .int .i64 b.cr, .int .i64 b.sl, .ref 1]), (0, .sl .ro 65 5 b.ships encShip zShip), (1, .sl .ro 70 4 b.sights encSight zSight)], 6, []⟩) (fun (k1 : Nat) (zz : (List Sight)) => zz.length ≤ k1) (by simp) ⟨0, rfl, Le.trans (Le_nil (id := 4) (j := 6) (ty := 27) (e := 70) (cs := [.ref 0, .int .i64 b.hear.lo, .int .i64 b.hear.hi, .int .i64 b.br, .int .i64 b.cr, .int .i64 b.sl, .v (.slice none 0 0)]) (by kernel_rfl) (by kernel_rfl) (sz := 4) encSight zSight (fun _ => rfl) (by kernel_rfl)) (Le_sel (ts := [6, 5, 4, 2, 1]) (ids := [5, 4, 3, 2, 0, 1]) (nx := 6) (by kernel_rfl))⟩ ?_ ?_
  · intro k1 v1_7 hn1 hp1 hi1 Q1 hq1 ho1
    replace hp1 : v1_7.length ≤ k1 := hp1
    refine WP_seq (WP_seq (WP_region (WPO_all tt_ok (by kernel_rfl) ?_)))
    refine WP_cond (decide ((k1 : Int) < (b.sights.length : Int))) (by kernel_rfl) (fun hc1 => ?_) (fun hc1 => ?_)
    rotate_left
    · refine WP_exit ?_
      show Q1 (.exit 0) _
      exact LA_exit hq1 v1_7 (loopR_end hi1 hc1) ⟨k1, hn1, hp1⟩ (Le_sel (ts := [5, 4]) (ids := [5, 4, 3, 2, 0, 1]) (nx := 6) (by kernel_rfl))
    have hc1' := of_decide_eq_true hc1
    have hk1 : k1 < b.sights.length := by omega
    refine WP_skip ?_
    refine WP_seq (WP_block ?_)
    refine WP_seq (WP_region (WPO_run tt_ok 2 (by kernel_rfl) ?_))
    refine CALL 89 [.s (.int .i64 set), .s (.int .i64 (k1 : Int))] (.s (.bool (memberF set (k1 : Int)))) [] (by kernel_rfl) (goes_of (by kernel_rfl)) (by kernel_rfl) (by kernel_rfl) (fun _ nV w h => memberF_calls  set (k1 : Int) w  (by first | assumption | omega | exact checkR_valid hl0 (by assumption) | exact askR_valid hl0 (by assumption))) ?_
    refine WPO_all tt_ok (by kernel_rfl) ?_
    refine WP_cond (!(memberF set (k1 : Int))) (by kernel_rfl) (fun hc3 => ?_) (fun hc3 => ?_)
    · have hc3' := hc3; try simp only [Bool.and_eq_true, Bool.or_eq_true, Bool.and_eq_false_iff, Bool.or_eq_false_iff, Bool.not_eq_true', Bool.not_eq_false', decide_eq_true_eq, decide_eq_false_iff_not, beq_iff_eq, beq_eq_false_iff_ne, bne_iff_ne, bne_eq_false_iff_eq, ne_eq] at hc3'
      refine WP_drawHM 10 [5] [4] (by kernel_rfl) (by kernel_rfl) ?_
      refine H_run tt_ok [0, 1, 2, 3, 4] (f' := 5) (by kernel_rfl) (by kernel_rfl) (by kernel_rfl) ?_
      refine H_IX tt_ok 5 (k1 : Int) b.sights.length [] (by kernel_rfl) (fun hG => ⟨by omega, by omega⟩) (by kernel_rfl) (by kernel_rfl) ?_
      refine H_run tt_ok [6] (f' := 3) (by kernel_rfl) (by kernel_rfl) (by kernel_rfl) ?_
      refine H_step 7 (by kernel_rfl) (by kernel_rfl) (fun hfz cx' hx1 hx2 => ?_)
      refine LIT tt_ok (by kernel_rfl) ?_
      refine LITSL 6 70 1 4 [.int .i64 (b.sights.getD k1 zSight).ship, .int .i64 (b.sights.getD k1 zSight).m, .int .i64 (b.sights.getD k1 zSight).aw.lo, .int .i64 (b.sights.getD k1 zSight).aw.hi] [(b.sights.getD k1 zSight)] encSight zSight (by kernel_rfl) rfl (fun _ => rfl) (fun n => rfl) ?_
      refine WPO_end (by kernel_rfl) ⟨rfl, (hfz.fnds [4, 3, 2, 0, 1] (by kernel_rfl) ⟨by kernel_rfl, by kernel_rfl, by kernel_rfl, by kernel_rfl, by kernel_rfl, trivial⟩ (by kernel_rfl)), ?_⟩
      refine H_step 8 (by kernel_rfl) (by kernel_rfl) (fun hfz cx' hx1 hx2 => ?_)
      refine APP tt_ok (.s (.ref 5)) (.s (.ref 6)) 25 70 (some 28) 4 v1_7 ([(b.sights.getD k1 zSight)]) encSight zSight (by kernel_rfl) (by kernel_rfl) (by kernel_rfl) (by kernel_rfl) (.inr (.inl ⟨5, rfl, (by kernel_rfl)⟩)) (.inr ⟨6, .own, rfl, (by kernel_rfl), (by simp only [List.length_cons, List.length_nil]; omega)⟩) (by simp) (fun y => rfl) (fun y => List.all_eq_true.1 rfl) (fun i hi => (by have hby : (tyL tt 70).map (·.bytes) = some 32 := (by kernel_rfl); rw [hi] at hby; simp only [Option.map_some, Option.some.injEq] at hby; rw [hby]; simp only [List.length_append, List.length_cons, List.length_nil]; omega)) ?_
      refine WPO_end (by kernel_rfl) ⟨rfl, (hfz.fnds [4, 3, 2, 0, 1] (by kernel_rfl) ⟨by kernel_rfl, by kernel_rfl, by kernel_rfl, by kernel_rfl, by kernel_rfl, trivial⟩ (by kernel_rfl)), ?_⟩
      refine H_run tt_ok [9] (f' := 0) (by kernel_rfl) (by kernel_rfl) (by kernel_rfl) ?_
      refine H_done (by kernel_rfl) ?_
      refine ⟨(by kernel_rfl), ?_⟩
      refine H_step 10 (by kernel_rfl) (by kernel_rfl) (fun hfz cx' hx1 hx2 => ?_)
      refine WPO_all tt_ok (by kernel_rfl) ?_
      refine ⟨rfl, (hfz.fnds [7, 6, 3, 2, 0, 1] (by kernel_rfl) ⟨by kernel_rfl, by kernel_rfl, by kernel_rfl, by kernel_rfl, by kernel_rfl, by kernel_rfl, trivial⟩ (by kernel_rfl)), ?_⟩
      refine H_done (by kernel_rfl) ?_
      refine WP_region (WPO_all tt_ok (by kernel_rfl) ?_)
      show Q1 .normal _
      exact LA_go hq1 (ci := IntKind.i64.wrap ((k1 : Int) + 1)) (v1_7 ++ ([(b.sights.getD k1 zSight)])) hk1 (by show _ = ((k1 + 1 : Nat) : Int); rw [wrapI (by omega) (by omega)]; omega) (loopR_go hi1 hk1 hc1 (by unfold withoutR_b1; simp only [hc3, cond_true, cond_false])) (by simp only [List.length_append, List.length_cons, List.length_nil]; omega) (Le_ren [(5, 7)] ⟨by kernel_rfl, by kernel_rfl, by kernel_rfl, by kernel_rfl, by kernel_rfl, by kernel_rfl, trivial⟩ ⟨by kernel_rfl, rfl, by kernel_rfl, by kernel_rfl, rfl, by kernel_rfl, by kernel_rfl, rfl, by kernel_rfl, by kernel_rfl, rfl, by kernel_rfl, by kernel_rfl, rfl, by kernel_rfl, trivial⟩ (by kernel_rfl) (by kernel_rfl) (rnm_id (m := 2) (by kernel_rfl)) (by show 2 ≤ 6; decide) (by kernel_rfl) (by kernel_rfl))
    have hc3' := hc3; try simp only [Bool.and_eq_true, Bool.or_eq_true, Bool.and_eq_false_iff, Bool.or_eq_false_iff, Bool.not_eq_true', Bool.not_eq_false', decide_eq_true_eq, decide_eq_false_iff_not, beq_iff_eq, beq_eq_false_iff_ne, bne_iff_ne, bne_eq_false_iff_eq, ne_eq] at hc3'
    refine WP_skip ?_
    refine WP_region (WPO_all tt_ok (by kernel_rfl) ?_)
    show Q1 .normal _
    exact LA_go hq1 (ci := IntKind.i64.wrap ((k1 : Int) + 1)) v1_7 hk1 (by show _ = ((k1 + 1 : Nat) : Int); rw [wrapI (by omega) (by omega)]; omega) (loopR_go hi1 hk1 hc1 (by unfold withoutR_b1; simp only [hc3, cond_true, cond_false])) (by omega) (Le_sel (ts := [6, 5, 4, 2, 1]) (ids := [5, 4, 3, 2, 0, 1]) (nx := 6) (by kernel_rfl))
  intro u1_0 hR1 hP1 s' hl
  obtain ⟨kP1, hkP1, hpP1⟩ := hP1
  replace hpP1 : u1_0.length ≤ kP1 := hpP1
  refine WP_le hl ?_
  clear hl s'
  refine WP_seq (WP_region (WPO_all tt_ok (by kernel_rfl) ?_))
  refine WP_ret ?_
  exact ⟨.g [.ref 0, .int .i64 b.hear.lo, .int .i64 b.hear.hi, .int .i64 b.br, .int .i64 b.cr, .int .i64 b.sl, .ref 5], by kernel_rfl, fun nV w' h => ⟨nV 5, by have e0 : nV 0 = g0 := h.ini 0 (by show 0 < 2; decide); rw [show withoutR b set = (⟨b.ships, b.hear, b.br, b.cr, b.sl, u1_0⟩ : Book) from by unfold withoutR; simp only [hR1, cond_true, cond_false], ← e0]; rfl, h.bel, by rw [show withoutR b set = (⟨b.ships, b.hear, b.br, b.cr, b.sl, u1_0⟩ : Book) from by unfold withoutR; simp only [hR1, cond_true, cond_false]]; exact own_of (z := zSight) h (by kernel_rfl)⟩⟩
theorem pow_le5 {n : Nat} (h : n ≤ 5) : (2 : Nat) ^ n ≤ 32 := by
  have : n = 0 ∨ n = 1 ∨ n = 2 ∨ n = 3 ∨ n = 4 ∨ n = 5 := by omega
  rcases this with rfl | rfl | rfl | rfl | rfl | rfl <;> decide
theorem pow_small {n : Nat} (h : n ≤ 5) : IntKind.i64.wrap (1 * 2 ^ (min (n : Int).toNat IntKind.i64.bits)) = ((2 ^ n : Nat) : Int) := by
  have : n = 0 ∨ n = 1 ∨ n = 2 ∨ n = 3 ∨ n = 4 ∨ n = 5 := by omega
  rcases this with rfl | rfl | rfl | rfl | rfl | rfl <;> decide
theorem withoutR_eq (b : Book) (set : Int) : withoutR b set = { b with sights := (List.range b.sights.length).flatMap fun i : Nat => bif !(memberF set i) then [b.sights.getD i zSight] else [] } := by
  unfold withoutR
  rw [loopR_app (fun i : Nat => bif !(memberF set i) then [b.sights.getD i zSight] else []) (fun i v hi => by simp only [withoutR_c1]; rw [decide_eq_true]; omega) (fun i v hi => by
    simp only [withoutR_b1]
    cases memberF set i <;> simp)]
  simp
theorem valid_wo {b : Book} {set : Int} {c : Bool} (hv : Valid b) (hc : c = true) : Valid (⟨b.ships, (withoutR b set).hear, (withoutR b set).br, (withoutR b set).cr, (withoutR b set).sl, bif c then (withoutR b set).sights else []⟩ : Book) := by
  subst hc
  rw [withoutR_eq]
  simp only [cond_true]
  have hm : ∀ x ∈ ((List.range b.sights.length).flatMap fun i : Nat => bif !(memberF set i) then [b.sights.getD i zSight] else []), x ∈ b.sights := fun x hx => by
    obtain ⟨i, hi, hx⟩ := List.mem_flatMap.1 hx
    cases hme : memberF set i
    · rw [hme] at hx
      simp only [Bool.not_false, cond_true, List.mem_singleton] at hx
      rw [hx]; exact getD_mem (List.mem_range.1 hi)
    · rw [hme] at hx; simp at hx
  have hlen : ((List.range b.sights.length).flatMap fun i : Nat => bif !(memberF set i) then [b.sights.getD i zSight] else []).length ≤ b.sights.length := by
    have : ∀ l : List Nat, (l.flatMap fun i : Nat => bif !(memberF set i) then [b.sights.getD i zSight] else []).length ≤ l.length := by
      intro l
      induction l with
      | nil => simp
      | cons x r ih =>
        simp only [List.flatMap_cons, List.length_append, List.length_cons]
        have h1 : (bif !(memberF set (x : Int)) then [b.sights.getD x zSight] else []).length ≤ 1 := by cases memberF set x <;> simp
        omega
    have := this (List.range b.sights.length)
    rwa [List.length_range] at this
  exact ⟨hv.nships, hv.hear, Nat.le_trans hlen hv.nsights, hv.br, hv.cr, hv.sl, hv.ships, fun x hx => hv.sights x (hm x hx)⟩
def wrongR_c1 (b : Book) (k1 : Nat) : (Bool × (List Int)) → Bool := fun (v1_1, v1_2) => decide ((k1 : Int) < (IntKind.i64.wrap (1 * 2 ^ (min (b.sights.length : Int).toNat IntKind.i64.bits))))
def wrongR_b1 (b : Book) (k1 : Nat) : (Bool × (List Int)) → Bd (Bool × (List Int)) ((List Int) × Int) := fun (v1_1, v1_2) => (bif ((!v1_1) || (betterF (membersF (k1 : Int) (b.sights.length : Int)) v1_2)) && (decide (((bif (true && (((!v1_1) || (betterF (membersF (k1 : Int) (b.sights.length : Int)) v1_2)) == true)) then (hearsR (⟨b.ships, (withoutR b (k1 : Int)).hear, (withoutR b (k1 : Int)).br, (withoutR b (k1 : Int)).cr, (withoutR b (k1 : Int)).sl, bif (true && (((!v1_1) || (betterF (membersF (k1 : Int) (b.sights.length : Int)) v1_2)) == true)) then (withoutR b (k1 : Int)).sights else []⟩ : Book)) else []).length : Int) > 0)) then .go (true, (membersF (k1 : Int) (b.sights.length : Int))) else .go (v1_1, v1_2))
def wrongR (b : Book) : (List Int) × Int :=
  (bif (checkR b) != 0 then ([], (checkR b)) else (match loopR (wrongR_c1 b) (wrongR_b1 b) (2 ^ b.sights.length) 0 (false, []) with | .brk (u1_0, u1_1) => (bif !u1_0 then ([], 42) else (u1_1, 0)) | .ret r => r))
theorem wrongR_calls (g0 g1 : Value) (b : Book) (w : World) (r0 : Reads w g0 5 b.ships encShip zShip) (r1 : Reads w g1 4 b.sights encSight zSight)  : Calls Tryd.prog 70 #[.agg #[g0, iv b.hear.lo, iv b.hear.hi, iv b.br, iv b.cr, iv b.sl, g1]] w fun e w' => ∃ v0, e = .returned (.tuple #[v0, iv (wrongR b).2]) ∧ Below w.heap.size w w' ∧ w'.ownsRow w.heap.size 3 1 v0 (wrongR b).1.length (flat (wrongR b).1 encI) := by
  refine calls_of_WP (cx := cx0 w (vn [g0, g1]) 2) (n := vn [g0, g1]) (vs := [.g [.ref 0, .int .i64 b.hear.lo, .int .i64 b.hear.hi, .int .i64 b.br, .int .i64 b.cr, .int .i64 b.sl, .ref 1]]) (hp := [(0, .sl .ro 65 5 b.ships encShip zShip), (1, .sl .ro 70 4 b.sights encSight zSight)]) (nx := 2) tt_ok Tryd.func70 rfl rfl rfl (by kernel_rfl) (HSat_args (vn_one (by simp [r0.one, r1.one])) (Nat.le_refl _) ⟨⟨⟨fun _ => rfl, by decide, r0⟩, (Nat.le_of_ble_eq_true rfl)⟩, ⟨⟨fun _ => rfl, by decide, r1⟩, (Nat.le_of_ble_eq_true rfl)⟩, trivial⟩) (vsOk (by kernel_rfl)) ?_
  have hl0 := Reads.len r0
  have hl1 := Reads.len r1
  refine WP_seq (WP_region (WPO_all tt_ok (by kernel_rfl) ?_))
  refine WP_seq (WP_seq (WP_region (WPO_run tt_ok 1 (by kernel_rfl) ?_)))
  refine CALL 59 [.g [.ref 0, .int .i64 b.hear.lo, .int .i64 b.hear.hi, .int .i64 b.br, .int .i64 b.cr, .int .i64 b.sl, .ref 1]] (.s (.int .i64 (checkR b))) [] (by kernel_rfl) (goes_of (by kernel_rfl)) (by kernel_rfl) (by kernel_rfl) (fun _ nV w h => checkR_calls (nV 0) (nV 1) b w (h.reads (id := 0) (kd := .ro) (e := 65) (by kernel_rfl)) (h.reads (id := 1) (kd := .ro) (e := 70) (by kernel_rfl)) ) ?_
  refine WPO_all tt_ok (by kernel_rfl) ?_
  refine WP_seq (WP_region (WPO_all tt_ok (by kernel_rfl) ?_))
  refine WP_cond ((checkR b) != 0) (by kernel_rfl) (fun hc2 => ?_) (fun hc2 => ?_)
  · have hc2' := hc2; try simp only [Bool.and_eq_true, Bool.or_eq_true, Bool.and_eq_false_iff, Bool.or_eq_false_iff, Bool.not_eq_true', Bool.not_eq_false', decide_eq_true_eq, decide_eq_false_iff_not, beq_iff_eq, beq_eq_false_iff_ne, bne_iff_ne, bne_eq_false_iff_eq, ne_eq] at hc2'
    refine WP_seq (WP_region (WPO_all tt_ok (by kernel_rfl) ?_))
    refine WP_ret ?_
    exact ⟨.t [(false, [.v (.slice none 0 0)]), (false, [.int .i64 (checkR b)])], by kernel_rfl, fun nV w' h => ⟨.slice none 0 0, by rw [show wrongR b = ([], (checkR b)) from by unfold wrongR; simp only [hc2, cond_true, cond_false]]; rfl, h.bel, by rw [show wrongR b = ([], (checkR b)) from by unfold wrongR; simp only [hc2, cond_true, cond_false]]; exact own_nil _ _ _ _ _⟩⟩
  have hc2' := hc2; try simp only [Bool.and_eq_true, Bool.or_eq_true, Bool.and_eq_false_iff, Bool.or_eq_false_iff, Bool.not_eq_true', Bool.not_eq_false', decide_eq_true_eq, decide_eq_false_iff_not, beq_iff_eq, beq_eq_false_iff_ne, bne_iff_ne, bne_eq_false_iff_eq, ne_eq] at hc2'
  refine WP_skip ?_
  have hv := checkR_valid hl0 (by assumption)
  have hsn := hv.nsights
  have hpw : IntKind.i64.wrap (1 * 2 ^ (min (b.sights.length : Int).toNat IntKind.i64.bits)) = ((2 ^ b.sights.length : Nat) : Int) := pow_small hsn
  have hpl : (2 : Nat) ^ b.sights.length ≤ 32 := pow_le5 hsn
  refine WP_seq (WP_region (WPO_all tt_ok (by kernel_rfl) ?_))
  refine WP_seq (WP_region (LIT tt_ok (by kernel_rfl) ?_))
  refine LITSL 3 3 0 1 [] ([] : List Int) encI 0 (by kernel_rfl) rfl (fun _ => rfl) (fun n => rfl) ?_
  refine WPO_all tt_ok (by kernel_rfl) ?_
  refine WP_seq (WP_seq (WP_region (WPO_all tt_ok (by kernel_rfl) ?_)))
  refine WP_loopA (ρ := (List Int) × Int) (wrongR_c1 b) (wrongR_b1 b) (2 ^ b.sights.length) (false, []) (fun k : Nat => (k : Int)) (fun (ci : Int) (zz : Bool × (List Int)) => ⟨47, [(8, [], .s (.int .i64 ci)), (7, [], .s (.bool zz.1)), (6, [], .s (.ref 4)), (5, [], .s (.int .i64 (b.sights.length : Int))), (1, [], .s (.p 2 0))], [(4, .sl .own 3 1 zz.2 encI 0), (2, .box 27 [.ref 0, .int .i64 b.hear.lo, .int .i64 b.hear.hi, .int .i64 b.br, .int .i64 b.cr, .int .i64 b.sl, .ref 1]), (0, .sl .ro 65 5 b.ships encShip zShip), (1, .sl .ro 70 4 b.sights encSight zSight)], 5, []⟩) (fun zz : Bool × (List Int) => ⟨47, [(7, [], .s (.bool zz.1)), (6, [], .s (.ref 4))], [(4, .sl .own 3 1 zz.2 encI 0), (2, .box 27 [.ref 0, .int .i64 b.hear.lo, .int .i64 b.hear.hi, .int .i64 b.br, .int .i64 b.cr, .int .i64 b.sl, .ref 1]), (0, .sl .ro 65 5 b.ships encShip zShip), (1, .sl .ro 70 4 b.sights encSight zSight)], 5, []⟩) (fun k zz => True) trivial ⟨0, rfl, Le_ren [(4, 3)] ⟨by kernel_rfl, by kernel_rfl, by kernel_rfl, by kernel_rfl, trivial⟩ ⟨by kernel_rfl, rfl, by kernel_rfl, by kernel_rfl, rfl, by kernel_rfl, by kernel_rfl, rfl, by kernel_rfl, by kernel_rfl, rfl, by kernel_rfl, by kernel_rfl, rfl, by kernel_rfl, trivial⟩ (by kernel_rfl) (by kernel_rfl) (rnm_id (m := 2) (by kernel_rfl)) (by show 2 ≤ 5; decide) (by kernel_rfl) (by kernel_rfl)⟩ ?_ ?_
  · intro k1 zz hn1 hp1 hi1 Q1 hq1 ho1
    obtain ⟨v1_1, v1_2⟩ := zz
    refine WP_seq (WP_seq (WP_region (WPO_run tt_ok 2 (by kernel_rfl) ?_)))
    refine BIN .shl 3 (.const (.int .i64 1)) (.tmp 20) (.s (.int .i64 1)) (.s (.int .i64 (b.sights.length : Int))) (.s (.int .i64 (IntKind.i64.wrap (1 * 2 ^ (min (b.sights.length : Int).toNat IntKind.i64.bits))))) [] (by kernel_rfl) (by kernel_rfl) (by kernel_rfl) (fun _ => BinOk_shl (by omega)) ?_
    refine WPO_all tt_ok (by kernel_rfl) ?_
    refine WP_cond (decide ((k1 : Int) < (IntKind.i64.wrap (1 * 2 ^ (min (b.sights.length : Int).toNat IntKind.i64.bits))))) (by kernel_rfl) (fun hc3 => ?_) (fun hc3 => ?_)
    rotate_left
    · refine WP_exit ?_
      show Q1 (.exit 0) _
      exact LA_exit hq1 (v1_1, v1_2) (loopR_end hi1 hc3) ⟨k1, hn1, hp1⟩ (Le_sel (ts := [7, 6]) (ids := [4, 2, 0, 1]) (nx := 5) (by kernel_rfl))
    have hc3' := of_decide_eq_true hc3
    have hk1 : k1 < 2 ^ b.sights.length := by rw [hpw] at hc3'; omega
    refine WP_skip ?_
    refine WP_seq (WP_block ?_)
    refine WP_seq (WP_region (WPO_run tt_ok 2 (by kernel_rfl) ?_))
    refine CALLO 48 [.s (.int .i64 (k1 : Int)), .s (.int .i64 (b.sights.length : Int))] (.s (.ref 5)) 3 1 (membersF (k1 : Int) (b.sights.length : Int)) encI 0 5 (by kernel_rfl) (by kernel_rfl) (goes_of (by kernel_rfl)) (by kernel_rfl) (by kernel_rfl) (fun _ => rfl) ((fun nV w h => membersF_calls  (k1 : Int) (b.sights.length : Int) w  (by first | assumption | omega | exact checkR_valid hl0 (by assumption) | exact askR_valid hl0 (by assumption) | exact valid_wo hv hG))) ?_
    refine WPO_all tt_ok (by kernel_rfl) ?_
    refine WP_seq (WP_region (WPO_run tt_ok 5 (by kernel_rfl) ?_))
    refine CALL 50 [.s (.ref 5), .s (.ref 4)] (.s (.bool (betterF (membersF (k1 : Int) (b.sights.length : Int)) v1_2))) [(!v1_1, false)] (by kernel_rfl) (goes_of (by kernel_rfl)) (by kernel_rfl) (by kernel_rfl) (fun _ nV w h => betterF_calls (nV 5) (nV 4) (membersF (k1 : Int) (b.sights.length : Int)) v1_2 w (h.reads (id := 5) (kd := .own) (e := 3) (by kernel_rfl)) (h.reads (id := 4) (kd := .own) (e := 3) (by kernel_rfl)) ) ?_
    refine WPO_run tt_ok 4 (by kernel_rfl) ?_
    refine CALLNG 102 [.g [.ref 0, .int .i64 b.hear.lo, .int .i64 b.hear.hi, .int .i64 b.br, .int .i64 b.cr, .int .i64 b.sl, .ref 1], .s (.int .i64 (k1 : Int))] [(35, true)] (true && (((!v1_1) || (betterF (membersF (k1 : Int) (b.sights.length : Int)) v1_2)) == true)) 70 4 (withoutR b (k1 : Int)).sights encSight zSight (.g [.ref 0, .int .i64 (withoutR b (k1 : Int)).hear.lo, .int .i64 (withoutR b (k1 : Int)).hear.hi, .int .i64 (withoutR b (k1 : Int)).br, .int .i64 (withoutR b (k1 : Int)).cr, .int .i64 (withoutR b (k1 : Int)).sl, .ref 6]) 6 (by kernel_rfl) (by kernel_rfl) (by kernel_rfl) (goes_of (by kernel_rfl)) (by kernel_rfl) (by kernel_rfl) (fun _ => rfl) (fun hG => (fun nV w h => withoutR_calls (nV 0) (nV 1) b (k1 : Int) w (h.reads (id := 0) (kd := .ro) (e := 65) (by kernel_rfl)) (h.reads (id := 1) (kd := .ro) (e := 70) (by kernel_rfl)) (by first | assumption | omega | exact checkR_valid hl0 (by assumption) | exact askR_valid hl0 (by assumption) | exact valid_wo hv hG))) ?_
    refine CALLNG 91 [.g [.ref 0, .int .i64 (withoutR b (k1 : Int)).hear.lo, .int .i64 (withoutR b (k1 : Int)).hear.hi, .int .i64 (withoutR b (k1 : Int)).br, .int .i64 (withoutR b (k1 : Int)).cr, .int .i64 (withoutR b (k1 : Int)).sl, .ref 6]] [(35, true)] (true && (((!v1_1) || (betterF (membersF (k1 : Int) (b.sights.length : Int)) v1_2)) == true)) 3 1 (hearsR (⟨b.ships, (withoutR b (k1 : Int)).hear, (withoutR b (k1 : Int)).br, (withoutR b (k1 : Int)).cr, (withoutR b (k1 : Int)).sl, bif (true && (((!v1_1) || (betterF (membersF (k1 : Int) (b.sights.length : Int)) v1_2)) == true)) then (withoutR b (k1 : Int)).sights else []⟩ : Book)) encI 0 (.s (.ref 7)) 7 (by kernel_rfl) (by kernel_rfl) (by kernel_rfl) (goes_of (by kernel_rfl)) (by kernel_rfl) (by kernel_rfl) (fun _ => rfl) (fun hG => (fun nV w h => hearsR_calls (nV 0) (nV 6) (⟨b.ships, (withoutR b (k1 : Int)).hear, (withoutR b (k1 : Int)).br, (withoutR b (k1 : Int)).cr, (withoutR b (k1 : Int)).sl, bif (true && (((!v1_1) || (betterF (membersF (k1 : Int) (b.sights.length : Int)) v1_2)) == true)) then (withoutR b (k1 : Int)).sights else []⟩ : Book) w (h.reads (id := 0) (kd := .ro) (e := 65) (by kernel_rfl)) (h.reads (id := 6) (kd := .own) (e := 70) (by kernel_rfl)) (by first | assumption | omega | exact checkR_valid hl0 (by assumption) | exact askR_valid hl0 (by assumption) | exact valid_wo hv hG))) ?_
    refine WPO_all tt_ok (by kernel_rfl) ?_
    refine WP_cond (((!v1_1) || (betterF (membersF (k1 : Int) (b.sights.length : Int)) v1_2)) && (decide (((bif (true && (((!v1_1) || (betterF (membersF (k1 : Int) (b.sights.length : Int)) v1_2)) == true)) then (hearsR (⟨b.ships, (withoutR b (k1 : Int)).hear, (withoutR b (k1 : Int)).br, (withoutR b (k1 : Int)).cr, (withoutR b (k1 : Int)).sl, bif (true && (((!v1_1) || (betterF (membersF (k1 : Int) (b.sights.length : Int)) v1_2)) == true)) then (withoutR b (k1 : Int)).sights else []⟩ : Book)) else []).length : Int) > 0))) (by kernel_rfl) (fun hc5 => ?_) (fun hc5 => ?_)
    · have hc5' := hc5; try simp only [Bool.and_eq_true, Bool.or_eq_true, Bool.and_eq_false_iff, Bool.or_eq_false_iff, Bool.not_eq_true', Bool.not_eq_false', decide_eq_true_eq, decide_eq_false_iff_not, beq_iff_eq, beq_eq_false_iff_ne, bne_iff_ne, bne_eq_false_iff_eq, ne_eq] at hc5'
      refine WP_region (WPO_all tt_ok (by kernel_rfl) ?_)
      refine WP_region (WPO_all tt_ok (by kernel_rfl) ?_)
      show Q1 .normal _
      exact LA_go hq1 (ci := IntKind.i64.wrap ((k1 : Int) + 1)) (true, (membersF (k1 : Int) (b.sights.length : Int))) hk1 (by show _ = ((k1 + 1 : Nat) : Int); rw [wrapI (by omega) (by omega)]; omega) (loopR_go hi1 hk1 hc3 (by unfold wrongR_b1; simp only [hc5, cond_true, cond_false])) trivial (Le_ren [(4, 5)] ⟨by kernel_rfl, by kernel_rfl, by kernel_rfl, by kernel_rfl, trivial⟩ ⟨by kernel_rfl, rfl, by kernel_rfl, by kernel_rfl, rfl, by kernel_rfl, by kernel_rfl, rfl, by kernel_rfl, by kernel_rfl, rfl, by kernel_rfl, by kernel_rfl, rfl, by kernel_rfl, trivial⟩ (by kernel_rfl) (by kernel_rfl) (rnm_id (m := 2) (by kernel_rfl)) (by show 2 ≤ 5; decide) (by kernel_rfl) (by kernel_rfl))
    have hc5' := hc5; try simp only [Bool.and_eq_true, Bool.or_eq_true, Bool.and_eq_false_iff, Bool.or_eq_false_iff, Bool.not_eq_true', Bool.not_eq_false', decide_eq_true_eq, decide_eq_false_iff_not, beq_iff_eq, beq_eq_false_iff_ne, bne_iff_ne, bne_eq_false_iff_eq, ne_eq] at hc5'
    refine WP_skip ?_
    refine WP_region (WPO_all tt_ok (by kernel_rfl) ?_)
    show Q1 .normal _
    exact LA_go hq1 (ci := IntKind.i64.wrap ((k1 : Int) + 1)) (v1_1, v1_2) hk1 (by show _ = ((k1 + 1 : Nat) : Int); rw [wrapI (by omega) (by omega)]; omega) (loopR_go hi1 hk1 hc3 (by unfold wrongR_b1; simp only [hc5, cond_true, cond_false])) trivial (Le_sel (ts := [8, 7, 6, 5, 1]) (ids := [4, 2, 0, 1]) (nx := 5) (by kernel_rfl))
  intro zz hR1 hP1 s' hl
  obtain ⟨u1_0, u1_1⟩ := zz
  refine WP_le hl ?_
  clear hl s'
  refine WP_seq (WP_seq (WP_region (WPO_all tt_ok (by kernel_rfl) ?_)))
  refine WP_cond (!u1_0) (by kernel_rfl) (fun hc7 => ?_) (fun hc7 => ?_)
  · have hc7' := hc7; try simp only [Bool.and_eq_true, Bool.or_eq_true, Bool.and_eq_false_iff, Bool.or_eq_false_iff, Bool.not_eq_true', Bool.not_eq_false', decide_eq_true_eq, decide_eq_false_iff_not, beq_iff_eq, beq_eq_false_iff_ne, bne_iff_ne, bne_eq_false_iff_eq, ne_eq] at hc7'
    refine WP_seq (WP_region (WPO_all tt_ok (by kernel_rfl) ?_))
    refine WP_ret ?_
    exact ⟨.t [(false, [.v (.slice none 0 0)]), (false, [.int .i64 42])], by kernel_rfl, fun nV w' h => ⟨.slice none 0 0, by rw [show wrongR b = ([], 42) from by unfold wrongR; simp only [hc2, hR1, hc7, cond_true, cond_false]]; rfl, h.bel, by rw [show wrongR b = ([], 42) from by unfold wrongR; simp only [hc2, hR1, hc7, cond_true, cond_false]]; exact own_nil _ _ _ _ _⟩⟩
  have hc7' := hc7; try simp only [Bool.and_eq_true, Bool.or_eq_true, Bool.and_eq_false_iff, Bool.or_eq_false_iff, Bool.not_eq_true', Bool.not_eq_false', decide_eq_true_eq, decide_eq_false_iff_not, beq_iff_eq, beq_eq_false_iff_ne, bne_iff_ne, bne_eq_false_iff_eq, ne_eq] at hc7'
  refine WP_skip ?_
  refine WP_seq (WP_region (WPO_all tt_ok (by kernel_rfl) ?_))
  refine WP_ret ?_
  exact ⟨.t [(false, [.ref 4]), (false, [.int .i64 0])], by kernel_rfl, fun nV w' h => ⟨nV 4, by rw [show wrongR b = (u1_1, 0) from by unfold wrongR; simp only [hc2, hR1, hc7, cond_true, cond_false]]; rfl, h.bel, by rw [show wrongR b = (u1_1, 0) from by unfold wrongR; simp only [hc2, hR1, hc7, cond_true, cond_false]]; exact own_of (z := 0) h (by kernel_rfl)⟩⟩
end Go.Proofs.YtamimgmoomcipaaDoor.Rf
namespace Go.Proofs.YtamimgmoomcipaaDoor.Lw
open Go Go.Proofs.YtamimgmoomcipaaDoor.Eng Go.Proofs.YtamimgmoomcipaaDoor.Fw Go.Proofs.YtamimgmoomcipaaDoor.Rf
set_option linter.unusedVariables false
set_option linter.unusedSimpArgs false
theorem filter_app {α : Type} (l : List Nat) (p : Nat → Bool) (f : Nat → α) : (l.flatMap fun i => bif p i then [f i] else []) = (l.filter p).map f := by
  induction l with
  | nil => rfl
  | cons x r ih => simp only [List.flatMap_cons, List.filter_cons]; cases p x <;> simp [ih]
def errF (b : Book) (ok : Bool) : Int := if checkW b = 0 then (if ok then (if isTrueF b [] then 0 else 42) else 41) else 40
theorem err_ok {b : Book} {ok : Bool} : errF b ok = 0 ↔ Valid b ∧ ok = true ∧ isTrueF b [] = true := by
  unfold errF
  rw [← check_valid]
  constructor
  · intro h
    split at h
    · split at h
      · split at h
        · exact ⟨‹_›, ‹_›, ‹_›⟩
        · cases h
      · cases h
    · cases h
  · rintro ⟨h1, h2, h3⟩
    rw [if_pos h1, if_pos h2, if_pos h3]
theorem err_cases (b : Book) (ok : Bool) : (errF b ok = 40 ∧ checkW b = 40) ∨ (checkW b = 0 ∧ ok = false ∧ errF b ok = 41) ∨ (checkW b = 0 ∧ ok = true ∧ isTrueF b [] = false ∧ errF b ok = 42) ∨ (checkW b = 0 ∧ ok = true ∧ isTrueF b [] = true ∧ errF b ok = 0) := by
  unfold errF
  rcases check_two b with h | h
  · rw [if_pos h]
    cases ok
    · right; left; exact ⟨h, rfl, rfl⟩
    · cases ht : isTrueF b []
      · right; right; left; exact ⟨h, rfl, rfl, rfl⟩
      · right; right; right; exact ⟨h, rfl, rfl, rfl⟩
  · left; rw [if_neg (by omega)]; exact ⟨rfl, h⟩
theorem ask_shape {α : Type} (b : Book) (ok : Bool) (z : α) (x : α × Int) : (bif (checkW b == 0) && ok then (bif (askT b) != 0 then (z, askT b) else x) else (bif (askN b) != 0 then (z, askN b) else (z, askN b))) = if errF b ok = 0 then x else (z, errF b ok) := by
  rcases err_cases b ok with ⟨h, h1⟩ | ⟨h1, rfl, h⟩ | ⟨h1, rfl, h2, h⟩ | ⟨h1, rfl, h2, h⟩
  · rw [h]; simp [askN, h1]
  · rw [h]; simp [askN, h1]
  · rw [h]; simp [askT, h1, h2]
  · rw [h]; simp [askT, h1, h2]
theorem courses_ne {b : Book} (h : isTrueF b [] = true) {k : Nat} (hk : k < b.ships.length) : ∃ c, c ∈ coursesF b k [] := by
  have := List.all_eq_true.1 h k (List.mem_range.2 hk)
  exact List.exists_mem_of_ne_nil _ (of_decide_eq_true this)
theorem each_some {b : Book} (h : isTrueF b [] = true) {k : Nat} (hk : k < b.ships.length) {f n : Nat} (he : eachF b [] k f n = true) : someF b [] k f n = true := by
  obtain ⟨c, hc⟩ := courses_ne h hk
  exact List.any_eq_true.2 ⟨c, hc, List.all_eq_true.1 he c hc⟩
theorem near02_eq {b : Book} (h : isTrueF b [] = true) {k : Nat} (hk : k < b.ships.length) (f n : Nat) : near02 b [] k f n = if eachF b [] k f n then 2 else if someF b [] k f n then 1 else 0 := by
  unfold near02 near01
  cases he : eachF b [] k f n
  · cases someF b [] k f n <;> rfl
  · rw [each_some h hk he]; rfl
theorem clearF_eq {b : Book} (hv : Valid b) (h : isTrueF b [] = true) {m : Int} : clearF b [] m = if (List.range b.ships.length).all (fun k => !someF b [] k m.toNat (b.cr + b.sl).toNat) then 2 else if (List.range b.ships.length).all (fun k => !eachF b [] k m.toNat (b.cr + b.sl).toNat) then 1 else 0 := by
  unfold clearF
  have hn : ∀ k, k < b.ships.length → 0 ≤ near02 b [] k m.toNat (b.cr + b.sl).toNat ∧ near02 b [] k m.toNat (b.cr + b.sl).toNat ≤ 2 := fun k hk => by
    rw [near02_eq h hk]; split <;> (try split) <;> omega
  have hl : ∀ x y : Int, leastF x [y] = min x y := fun x y => by
    unfold leastF
    simp only [loopR, leastF_c1, leastF_b1, List.length_cons, List.length_nil]
    simp [mn]
    omega
  rw [loopR_foldl (fun k v => leastF v ([IntKind.i64.wrap (2 - (near02 b ([]) (k : Int).toNat m.toNat (b.cr + b.sl).toNat))])) (fun k v hk => by simp only [clearF_c1]; rw [decide_eq_true]; omega) (fun k v hk => by simp only [clearF_b1])]
  simp only
  have key : ∀ n, n ≤ b.ships.length → (List.range n).foldl (fun (v : Int) (k : Nat) => leastF v ([IntKind.i64.wrap (2 - (near02 b ([]) (k : Int).toNat m.toNat (b.cr + b.sl).toNat))])) (2 : Int) = if (List.range n).all (fun k => !someF b [] k m.toNat (b.cr + b.sl).toNat) then 2 else if (List.range n).all (fun k => !eachF b [] k m.toNat (b.cr + b.sl).toNat) then 1 else 0 := by
    intro n
    induction n with
    | zero => intro _; simp
    | succ n ih =>
      intro hn2
      have h1 := hn n (by omega)
      rw [List.range_succ, List.foldl_append, ih (by omega)]
      simp only [List.foldl_cons, List.foldl_nil, List.all_append, List.all_cons, List.all_nil, Bool.and_true, Int.toNat_natCast, hl]
      rw [wrapI (by omega) (by omega), near02_eq h (show n < b.ships.length by omega)]
      have hes := each_some h (show n < b.ships.length by omega) (f := m.toNat) (n := (b.cr + b.sl).toNat)
      have hAB : (List.range n).all (fun k => !someF b [] k m.toNat (b.cr + b.sl).toNat) = true → (List.range n).all (fun k => !eachF b [] k m.toNat (b.cr + b.sl).toNat) = true := fun hA => List.all_eq_true.2 fun k hk => by
        have h2 := List.all_eq_true.1 hA k hk
        cases hE : eachF b [] k m.toNat (b.cr + b.sl).toNat
        · rfl
        · rw [each_some h (by have := List.mem_range.1 hk; omega) hE] at h2; cases h2
      generalize (List.range n).all (fun k => !someF b [] k m.toNat (b.cr + b.sl).toNat) = A at hAB ⊢
      generalize (List.range n).all (fun k => !eachF b [] k m.toNat (b.cr + b.sl).toNat) = B at hAB ⊢
      generalize eachF b [] n m.toNat (b.cr + b.sl).toNat = E at hes ⊢
      generalize someF b [] n m.toNat (b.cr + b.sl).toNat = S at hes ⊢
      clear ih hl hn h1
      revert hAB hes
      cases A <;> cases B <;> cases E <;> cases S <;> decide
  exact key _ (Nat.le_refl _)
theorem foundF_eq (b : Book) (frm : Int) : foundF b [] frm = ((List.range 61).filter fun m : Nat => sureF b [] frm m).map fun m : Nat => (m : Int) := by
  unfold foundF
  rw [loopR_app (fun m : Nat => bif sureF b [] frm (m : Int) then [(m : Int)] else []) (fun k v hk => by simp only [foundF_c1]; rw [decide_eq_true]; omega) (fun k v hk => by simp only [foundF_b1]; cases sureF b [] frm (k : Int) <;> simp)]
  simp only [List.nil_append]
  exact filter_app _ _ _
theorem freeA_eq (b : Book) : freeA b = if errF b true = 0 then (foundF b [] 0, 0) else ([], errF b true) := by
  unfold freeA; exact ask_shape _ _ _ _
end Go.Proofs.YtamimgmoomcipaaDoor.Lw
namespace Go.Proofs.YtamimgmoomcipaaDoor.Lw
open Go Go.Proofs.YtamimgmoomcipaaDoor.Eng Go.Proofs.YtamimgmoomcipaaDoor.Fw Go.Proofs.YtamimgmoomcipaaDoor.Rf
set_option linter.unusedVariables false
set_option linter.unusedSimpArgs false
theorem hears_iff {b : Book} (hv : Valid b) {x : Int} : x ∈ hearsR b ↔ (b.hear.lo ≤ x ∧ x ≤ b.hear.hi) ∧ ∀ k, k < b.ships.length → ∃ c ∈ coursesF b k [], c.1 ≤ x := by
  rw [mem_hearsR]
  constructor
  · rintro ⟨h1, h2⟩
    refine ⟨h1, fun k hk => ?_⟩
    have h3 := of_decide_eq_true (List.all_eq_true.1 h2 k (List.mem_range.2 hk))
    obtain ⟨c, hc⟩ := List.exists_mem_of_length_pos h3
    have := (courses_both hv hk h1.2).1 hc
    exact ⟨_, this.1, this.2⟩
  · rintro ⟨h1, h2⟩
    refine ⟨h1, List.all_eq_true.2 fun k hk => decide_eq_true ?_⟩
    obtain ⟨c, hc, hx⟩ := h2 k (List.mem_range.1 hk)
    exact List.length_pos_of_mem ((courses_both (c := ⟨c.1, c.2⟩) hv (List.mem_range.1 hk) h1.2).2 ⟨hc, hx⟩)
theorem true_iff {b : Book} : isTrueF b [] = true ↔ ∀ k, k < b.ships.length → ∃ c, c ∈ coursesF b k [] := by
  constructor
  · exact fun h k hk => courses_ne h hk
  · intro h
    refine List.all_eq_true.2 fun k hk => decide_eq_true ?_
    obtain ⟨c, hc⟩ := h k (List.mem_range.1 hk)
    exact List.ne_nil_of_mem hc
theorem hears_hi {b : Book} (hv : Valid b) (h : isTrueF b [] = true) : b.hear.hi ∈ hearsR b := by
  have := hv.hear
  refine (hears_iff hv).2 ⟨by omega, fun k hk => ?_⟩
  obtain ⟨c, hc⟩ := courses_ne h hk
  exact ⟨c, hc, ((mem_coursesF hv hk).1 hc).1.2.2⟩
theorem hears_true {b : Book} (hv : Valid b) : 0 < (hearsR b).length ↔ isTrueF b [] = true := by
  constructor
  · intro h
    obtain ⟨x, hx⟩ := List.exists_mem_of_length_pos h
    exact true_iff.2 fun k hk => by obtain ⟨c, hc, _⟩ := ((hears_iff hv).1 hx).2 k hk; exact ⟨c, hc⟩
  · exact fun h => List.length_pos_of_mem (hears_hi hv h)
theorem askR_two {b : Book} {ok : Bool} (h1 : (b.ships.length : Int) ≤ 9223372036854775807) : (askR b ok).2 = errF b ok := by
  rw [askR_e, checkR_eq h1]
  rcases err_cases b ok with ⟨h, hc⟩ | ⟨hc, rfl, h⟩ | ⟨hc, rfl, h2, h⟩ | ⟨hc, rfl, h2, h⟩
  · rw [h, hc]; rfl
  · rw [h, hc]; rfl
  · have hv := check_valid.1 hc
    have : ¬ 0 < (hearsR b).length := fun h' => by rw [(hears_true hv).1 h'] at h2; cases h2
    rw [h, hc, if_neg (by simp), if_pos rfl, if_pos (by omega)]
  · have hv := check_valid.1 hc
    have := (hears_true hv).2 h2
    rw [h, hc, if_neg (by simp), if_pos rfl, if_neg (by omega)]
theorem askR_one {b : Book} {ok : Bool} (h1 : (b.ships.length : Int) ≤ 9223372036854775807) (h : errF b ok = 0) : (askR b ok).1 = hearsR b := (askR_ok (by rw [askR_two h1]; exact h)).2.1
theorem shape_if {α : Type} (e : Int) (z x : α) : (bif e != 0 then (z, e) else (x, 0)) = if e = 0 then (x, (0 : Int)) else (z, e) := by
  by_cases h : e = 0
  · rw [if_pos h, h]; rfl
  · rw [if_neg h, bne_iff_ne.2 h]; rfl
theorem shape_if2 {α : Type} (e : Int) (z : α) (x : α × Int) : (bif e != 0 then (z, e) else x) = if e = 0 then x else (z, e) := by
  by_cases h : e = 0
  · rw [if_pos h, h]; rfl
  · rw [if_neg h, bne_iff_ne.2 h]; rfl
theorem near_both {b : Book} (hv : Valid b) {k : Nat} (hk : k < b.ships.length) {m : Nat} (hm : m ≤ 900) : ∀ c ∈ coursesF b k [], nearR b k ⟨c.1, c.2⟩ m = nearF b k c.1 c.2 m := fun c hc => by
  have := mem_courses hv hk hc
  exact nearR_eq hv hk (by simp only; omega) (by simp only; omega) hm
theorem kind_eq (s e : Bool) (h : e = true → s = true) : kindR s e = if e then 2 else if s then 1 else 0 := by
  unfold kindR; cases e <;> cases s <;> rfl
end Go.Proofs.YtamimgmoomcipaaDoor.Lw
namespace Go.Proofs.YtamimgmoomcipaaDoor.Lw
open Go Go.Proofs.YtamimgmoomcipaaDoor.Eng Go.Proofs.YtamimgmoomcipaaDoor.Fw Go.Proofs.YtamimgmoomcipaaDoor.Rf
set_option linter.unusedVariables false
set_option linter.unusedSimpArgs false
theorem find_any {N : Nat} {p : Nat → Bool} {α : Type} (x y : α) : (match (List.range N).find? p with | some _ => x | none => y) = bif (List.range N).any p then x else y := by
  cases hf : (List.range N).find? p with
  | none =>
    have : (List.range N).any p = false := by rw [List.any_eq_false]; intro x hx; exact List.find?_eq_none.1 hf x hx
    rw [this]; rfl
  | some q =>
    have : (List.range N).any p = true := List.any_eq_true.2 ⟨q, List.mem_of_find?_eq_some hf, List.find?_some hf⟩
    rw [this]; rfl
theorem cond_tf (x : Bool) : (bif x then true else false) = x := by cases x <;> rfl
theorem meetsR_eq {b : Book} (hv : Valid b) {k : Nat} (hk : k < b.ships.length) {c : Int × Int} (hc : c ∈ coursesF b k []) {begin : Nat} (hb : begin ≤ 60) : meetsR b k ⟨c.1, c.2⟩ begin = hitF (nearF b k c.1 c.2) begin (b.cr + b.sl).toNat := by
  have h1 := hv.cr
  have h2 := hv.sl
  unfold meetsR
  have hw : IntKind.i64.wrap (IntKind.i64.wrap ((begin : Int) + b.cr) + b.sl) = begin + b.cr + b.sl := by rw [wrapI (x := (begin : Int) + b.cr) (by omega) (by omega), wrapI (by omega) (by omega)]
  rw [loopR_find (fun q => nearF b k c.1 c.2 (begin + q)) (fun _ => true) (fun q hq => by simp only [meetsR_c1]; rw [hw] at hq ⊢; rw [decide_eq_true]; omega) (fun q hq => by
    rw [hw] at hq
    simp only [meetsR_b1]
    have := near_both hv hk (m := begin + q) (by omega) c hc
    rw [show (begin : Int) + (q : Int) = ((begin + q : Nat) : Int) by omega, this]), hw]
  have hn : (begin + b.cr + b.sl - (begin : Int)).toNat = (b.cr + b.sl).toNat := by omega
  rw [hn]
  unfold hitF
  rw [← cond_tf ((List.range (b.cr + b.sl).toNat).any fun q => nearF b k c.1 c.2 (begin + q)), ← find_any true false]
  cases (List.range (b.cr + b.sl).toNat).find? _ <;> rfl
theorem foldl_or_and (l : List Nat) (f : Nat → Bool) (x y : Bool) : l.foldl (fun (v : Bool × Bool) k => (v.1 || f k, v.2 && f k)) (x, y) = (x || l.any f, y && l.all f) := by
  induction l generalizing x y with
  | nil => simp
  | cons z r ih => simp only [List.foldl_cons, ih, List.all_cons, List.any_cons, Bool.and_assoc, Bool.or_assoc]
theorem foldl_and2 (l : List Nat) (f g : Nat → Bool) (x y : Bool) : l.foldl (fun (v : Bool × Bool) k => (v.1 && f k, v.2 && g k)) (x, y) = (x && l.all f, y && l.all g) := by
  induction l generalizing x y with
  | nil => simp
  | cons z r ih => simp only [List.foldl_cons, ih, List.all_cons, Bool.and_assoc]
theorem foldl_and_or (l : List Nat) (f g : Nat → Bool) (x y : Bool) : l.foldl (fun (v : Bool × Bool) k => (v.1 && f k, v.2 || g k)) (x, y) = (x && l.all f, y || l.any g) := by
  induction l generalizing x y with
  | nil => simp
  | cons z r ih => simp only [List.foldl_cons, ih, List.all_cons, List.any_cons, Bool.and_assoc, Bool.or_assoc]
def oneC (b : Book) (begin k : Nat) (x : Int) : Bool := (coursesF b k []).any fun c => decide (c.1 ≤ x) && !hitF (nearF b k c.1 c.2) begin (b.cr + b.sl).toNat
def eachC (b : Book) (begin k : Nat) (x : Int) : Bool := (coursesF b k []).all fun c => !decide (c.1 ≤ x) || !hitF (nearF b k c.1 c.2) begin (b.cr + b.sl).toNat
theorem oneC_R {b : Book} (hv : Valid b) {k : Nat} (hk : k < b.ships.length) {x : Int} (hx : x ≤ b.hear.hi) {begin : Nat} (hb : begin ≤ 60) : (coursesR b k x).any (fun c => !meetsR b k c begin) = oneC b begin k x := by
  rw [Bool.eq_iff_iff]
  unfold oneC
  simp only [List.any_eq_true, Bool.and_eq_true, decide_eq_true_eq]
  constructor
  · rintro ⟨c, hc, h⟩
    have := (courses_both hv hk hx).1 hc
    refine ⟨_, this.1, this.2, ?_⟩
    rw [← meetsR_eq hv hk this.1 hb]; exact h
  · rintro ⟨c, hc, h1, h2⟩
    exact ⟨⟨c.1, c.2⟩, (courses_both hv hk hx).2 ⟨hc, h1⟩, by rw [meetsR_eq hv hk hc hb]; exact h2⟩
theorem eachC_R {b : Book} (hv : Valid b) {k : Nat} (hk : k < b.ships.length) {x : Int} (hx : x ≤ b.hear.hi) {begin : Nat} (hb : begin ≤ 60) : (coursesR b k x).all (fun c => !meetsR b k c begin) = eachC b begin k x := by
  rw [Bool.eq_iff_iff]
  unfold eachC
  simp only [List.all_eq_true, Bool.or_eq_true, Bool.not_eq_true', decide_eq_false_iff_not]
  constructor
  · intro h c hc
    by_cases h1 : c.1 ≤ x
    · right
      rw [← meetsR_eq hv hk hc hb]
      exact h ⟨c.1, c.2⟩ ((courses_both hv hk hx).2 ⟨hc, h1⟩)
    · exact .inl h1
  · intro h c hc
    have := (courses_both hv hk hx).1 hc
    rw [show c = ⟨c.aw, c.sp⟩ from rfl, meetsR_eq hv hk this.1 hb]
    exact (h _ this.1).resolve_left (fun h => h this.2)
theorem clearR_eq {b : Book} (hv : Valid b) (ht : isTrueF b [] = true) {begin : Nat} (hb : begin ≤ 60) : clearR b (hearsR b) begin = clearF b [] begin := by
  have hbc : ∀ q, q < (hearsR b).length → (hearsR b).getD q 0 ≤ b.hear.hi := fun q hq => ((hears_iff hv).1 (getD_mem hq)).1.2
  unfold clearR
  rw [loopR_foldl (fun q (v : Bool × Bool) => (v.1 && (List.range b.ships.length).all (fun k => eachC b begin k ((hearsR b).getD q 0)), v.2 || (List.range b.ships.length).all (fun k => oneC b begin k ((hearsR b).getD q 0)))) (fun q v hq => by obtain ⟨v1, v2⟩ := v; simp only [clearR_c1]; rw [decide_eq_true]; omega) (fun q v hq => by
    obtain ⟨v1, v2⟩ := v
    simp only [clearR_b1]
    rw [loopR_foldl (fun k (v : Bool × Bool) => (v.1 && oneC b begin k ((hearsR b).getD q 0), v.2 && eachC b begin k ((hearsR b).getD q 0))) (fun k v hk => by obtain ⟨v1, v2⟩ := v; simp only [clearR_c2]; rw [decide_eq_true]; omega) (fun k v hk => by
      obtain ⟨v1, v2⟩ := v
      simp only [clearR_b2]
      rw [loopR_foldl (fun j (v : Bool × Bool) => (v.1 || !(meetsR b k ((coursesR b k ((hearsR b).getD q 0)).getD j zCrs) begin), v.2 && !(meetsR b k ((coursesR b k ((hearsR b).getD q 0)).getD j zCrs) begin))) (fun j v hj => by obtain ⟨v1, v2⟩ := v; simp only [clearR_c3]; rw [decide_eq_true]; omega) (fun j v hj => by
        obtain ⟨v1, v2⟩ := v
        simp only [clearR_b3])]
      rw [foldl_or_and]
      rw [any_range (coursesR b k ((hearsR b).getD q 0)) zCrs (fun c => !meetsR b k c begin), all_range (coursesR b k ((hearsR b).getD q 0)) zCrs (fun c => !meetsR b k c begin), oneC_R hv hk (hbc q hq) hb, eachC_R hv hk (hbc q hq) hb]
      simp only [Bool.false_or])]
    rw [foldl_and2]
    simp only [Bool.true_and])]
  rw [foldl_and_or]
  simp only [Bool.true_and, Bool.false_or]
  rw [all_range (hearsR b) 0 (fun x => (List.range b.ships.length).all fun k => eachC b begin k x), any_range (hearsR b) 0 (fun x => (List.range b.ships.length).all fun k => oneC b begin k x)]
  rw [clearF_eq hv ht, Int.toNat_natCast]
  have hhi := hears_hi hv ht
  have he : (hearsR b).all (fun x => (List.range b.ships.length).all fun k => eachC b begin k x) = (List.range b.ships.length).all (fun k => !someF b [] k begin (b.cr + b.sl).toNat) := by
    rw [Bool.eq_iff_iff]
    simp only [List.all_eq_true, List.mem_range, Bool.not_eq_true', someF, List.any_eq_false, eachC, Bool.or_eq_true, decide_eq_false_iff_not]
    constructor
    · intro h k hk c hc
      rcases h _ hhi k hk c hc with h1 | h1
      · exact absurd ((mem_coursesF hv hk).1 hc).1.2.2 h1
      · rw [h1]; decide
    · intro h x hx k hk c hc
      right
      have := h k hk c hc
      simpa using this
  have hs : (hearsR b).any (fun x => (List.range b.ships.length).all fun k => oneC b begin k x) = (List.range b.ships.length).all (fun k => !eachF b [] k begin (b.cr + b.sl).toNat) := by
    rw [Bool.eq_iff_iff]
    simp only [List.any_eq_true, List.all_eq_true, List.mem_range, Bool.not_eq_true', oneC, eachF, Bool.and_eq_true, decide_eq_true_eq]
    constructor
    · rintro ⟨x, hx, h⟩ k hk
      obtain ⟨c, hc, _, h1⟩ := h k hk
      rw [Bool.eq_false_iff]
      intro h2
      rw [List.all_eq_true.1 h2 c hc] at h1; cases h1
    · intro h
      refine ⟨_, hhi, fun k hk => ?_⟩
      have h2 := h k hk
      rw [← Bool.not_eq_true, List.all_eq_true] at h2
      simp only [Classical.not_forall] at h2
      obtain ⟨c, hc, h3⟩ := h2
      exact ⟨c, hc, ((mem_coursesF hv hk).1 hc).1.2.2, by simpa using h3⟩
  rw [he, hs, kind_eq _ _ fun h => List.all_eq_true.2 fun k hk => by
    have h2 := List.all_eq_true.1 h k hk
    cases hE : eachF b [] k begin (b.cr + b.sl).toNat
    · rfl
    · rw [each_some ht (List.mem_range.1 hk) hE] at h2; cases h2]
theorem freeR_eq {b : Book} (hv : Valid b) (ht : isTrueF b [] = true) : freeR b (hearsR b) = foundF b [] 0 := by
  unfold freeR
  rw [loopR_app (fun m : Nat => bif sureF b [] 0 (m : Int) then [(m : Int)] else []) (fun q v hq => by simp only [freeR_c1]; rw [decide_eq_true]; omega) (fun q v hq => by
    simp only [freeR_b1, sureF]
    rw [clearR_eq hv ht (by omega), decide_eq_true (by omega), Bool.true_and]
    cases clearF b [] (q : Int) == 2 <;> simp)]
  rw [foundF_eq, filter_app (f := fun m : Nat => (m : Int)) (p := fun m : Nat => sureF b [] 0 m)]
  rfl
theorem freeR_A {b : Book} (h1 : (b.ships.length : Int) ≤ 9223372036854775807) : freeAR b = freeA b := by
  rw [freeA_eq]
  unfold freeAR
  rw [shape_if, askR_two h1]
  by_cases he : errF b true = 0
  · obtain ⟨hv, _, ht⟩ := err_ok.1 he
    rw [if_pos he, if_pos he, askR_one h1 he, freeR_eq hv ht]
  · rw [if_neg he, if_neg he]
end Go.Proofs.YtamimgmoomcipaaDoor.Lw
namespace Go.Proofs.YtamimgmoomcipaaDoor.Eng
open Go Go.RowKit Go.ChangeShapes Go.WideShapes
set_option linter.unusedVariables false
set_option linter.unusedSimpArgs false
def i64B (n : Int) : Prop := -9223372036854775808 ≤ n ∧ n ≤ 9223372036854775807
theorem i64_wf {n : Int} (h : (Lit.int .i64 n).wf = true) : i64B n := by
  simp only [Lit.wf, Bool.and_eq_true, decide_eq_true_eq] at h
  exact ⟨h.1, h.2⟩
def Wb {H : Type} (P : Program) (t : TypeId) (d : DataW H) : Prop := ∀ n ∈ d.weights P t, n ≤ reachBytes
def Opn (P : Program) (w : World) (t : TypeId) (φ : List Value → Prop) : Prop :=
  ∀ (H : Type) (enc : TypeId × Value → H) (sp : Nat → Bool) (held : Bool) (fuel : Nat) (cs : List Value) (x : DataW H × List MemPlace), DataW.trod enc P w 0 sp held fuel t cs = some x → Wb P t x.1 → φ cs
section
variable {P : Program} {w : World} {t e : TypeId}
theorem Opn.mono {φ ψ : List Value → Prop} (h : Opn P w t φ) (k : ∀ cs, φ cs → ψ cs) : Opn P w t ψ := fun H enc sp held fuel cs x h1 h2 => k cs (h H enc sp held fuel cs x h1 h2)
theorem Opn_int (ht : P.underlying t = some (.int .i64)) : Opn P w t (fun cs => ∃ n : Int, cs = [.int .i64 n] ∧ i64B n) := fun H enc sp held fuel cs x h1 h2 => by
  obtain ⟨n, rfl, _, hw⟩ := DataW.trod_int ht h1
  exact ⟨n, rfl, i64_wf hw⟩
theorem Opn_struct {fs : Array Field} (ht : P.underlying t = some (.struct fs)) (φ : Nat → List Value → Prop) (hf : ∀ i f, fs[i]? = some f → Opn P w f.type (φ i)) :
    Opn P w t (fun cs => cs.length = P.cellsOf t ∧ ∀ i f, fs[i]? = some f → φ i ((cs.drop f.offset).take (P.cellsOf f.type))) := fun H enc sp held fuel cs x h1 h2 => by
  obtain ⟨xs, n, rfl, rfl, hl, hxl, hall⟩ := DataW.trod_struct ht h1
  refine ⟨hl, fun i f hif => ?_⟩
  have h3 := hall i f hif
  have hi : i < xs.length := by rw [hxl]; exact (Array.getElem?_eq_some_iff.1 hif).1
  rw [List.getElem?_eq_getElem hi] at h3
  refine hf i f hif H enc sp held n _ _ h3 fun m hm => h2 m ?_
  simp only [DataW.weights, ht]
  exact DataW.weights_mem_each (j := i) (t := f.type) (d := (xs[i]).1) (by rw [List.getElem?_map, Array.getElem?_toList, hif]; rfl) (by rw [List.getElem?_map, List.getElem?_eq_getElem hi]; rfl) m hm
theorem weightsAll_mem {H : Type} : ∀ (l : List (DataW H)) (d : DataW H), d ∈ l → ∀ n ∈ d.weights P e, n ∈ DataW.weightsAll P e l
  | x :: r, d, hd, n, hn => by
    simp only [DataW.weightsAll, List.mem_append]
    rcases List.mem_cons.1 hd with rfl | hd
    · exact .inl hn
    · exact .inr (weightsAll_mem r d hd n hn)
theorem mapM_get {α β : Type _} {f : α → Option β} : ∀ {l : List α} {r : List β}, l.mapM f = some r → ∀ (i : Nat) (a : α), l[i]? = some a → ∃ b, f a = some b ∧ r[i]? = some b
  | [], r, h, i, a, hi => by cases hi
  | x :: l, r, h, i, a, hi => by
    rw [List.mapM_cons] at h
    obtain ⟨b, hb, h⟩ := Option.bind_eq_some_iff.1 h
    obtain ⟨r', hr, h⟩ := Option.bind_eq_some_iff.1 h
    cases h
    cases i with
    | zero => cases hi; exact ⟨b, hb, rfl⟩
    | succ i => exact mapM_get hr i a hi
theorem cells_get {a : Addr} {n : Nat} {cs : List Value} (h : w.cells? 0 a n = some cs) : cs.length = n ∧ ∀ o, o < n → w.cell? (a.add o) = cs[o]? := by
  unfold World.cells? at h
  rw [if_pos (Nat.zero_le _)] at h
  have hlen : ∀ {l : List Nat} {r : List Value}, l.mapM (fun i => w.cell? (a.add i)) = some r → r.length = l.length := by
    intro l
    induction l with
    | nil => intro r h; cases h; rfl
    | cons x l ih =>
      intro r h
      rw [List.mapM_cons] at h
      obtain ⟨b, hb, h⟩ := Option.bind_eq_some_iff.1 h
      obtain ⟨r', hr, h⟩ := Option.bind_eq_some_iff.1 h
      cases h
      simp [ih hr]
  refine ⟨by rw [hlen h]; simp, fun o ho => ?_⟩
  obtain ⟨b, hb, hr⟩ := mapM_get h o o (by rw [List.getElem?_range ho])
  rw [hb, hr]
theorem Opn_slice {α : Type} {sz : Nat} {encA : α → List Value} {z : α} {ok : α → Prop} (ht : P.underlying t = some (.slice e)) (hsz : P.cellsOf e = sz) (hE : Opn P w e (fun cs => ∃ a, cs = encA a ∧ ok a)) :
    Opn P w t (fun cs => ∃ (v : Value) (l : List α), cs = [v] ∧ Reads w v sz l encA z ∧ (∀ a ∈ l, ok a) ∧ l.length * P.bytesOf e ≤ reachBytes) := fun H enc sp held fuel cs x h1 h2 => by
  rcases Go.Deep.open_slice ht h1 with ⟨rfl, rfl⟩ | ⟨a, len, cap, m, n, D, Pl, rfl, hb, hlc, hcm, hm, rfl, hall⟩
  · exact ⟨_, [], rfl, reads_nil, fun a ha => (by cases ha), by simp⟩
  · have hlm : len ≤ m := by rw [hm]; split <;> omega
    have hw : ∀ k, k ∈ (DataW.slice ((List.range len).map D) ((List.range (m - len)).map fun j => D (len + j))).weights P t → k ≤ reachBytes := h2
    simp only [DataW.weights, ht] at hw
    have hbig := hw _ (List.mem_cons_self)
    have hel : ∀ i, i < len → ∃ y : α, (∀ o, o < sz → w.cell? ((a.add (i * sz)).add o) = (encA y)[o]?) ∧ ok y := fun i hi => by
      obtain ⟨cs', hc, htr⟩ := hall i (by omega)
      obtain ⟨y, rfl, hy⟩ := hE H enc sp held n cs' _ htr fun k hk => hw k (List.mem_cons_of_mem _ (List.mem_append.2 (.inl (weightsAll_mem _ (D i) (List.mem_map.2 ⟨i, List.mem_range.2 hi, rfl⟩) k hk))))
      rw [hsz] at hc
      exact ⟨y, (cells_get hc).2, hy⟩
    have hlist : ∃ l : List α, l.length = len ∧ ∀ i, i < len → ∃ y, l[i]? = some y ∧ (∀ o, o < sz → w.cell? ((a.add (i * sz)).add o) = (encA y)[o]?) ∧ ok y := by
      clear hbig hw hall hm hlm h1 h2
      generalize len = q at hel
      clear hlc
      induction q with
      | zero => exact ⟨[], rfl, fun i hi => absurd hi (Nat.not_lt_zero _)⟩
      | succ q ih =>
        obtain ⟨l, hl, hi⟩ := ih (fun i hi => hel i (Nat.lt_succ_of_lt hi))
        obtain ⟨y, hy⟩ := hel q (Nat.lt_succ_self q)
        refine ⟨l ++ [y], by simp [hl], fun i hiq => ?_⟩
        rcases Nat.lt_succ_iff_lt_or_eq.1 hiq with hlt | rfl
        · obtain ⟨y', h1, h2⟩ := hi i hlt
          exact ⟨y', by rw [List.getElem?_append_left (by omega)]; exact h1, h2⟩
        · exact ⟨y, by rw [List.getElem?_append_right (by omega)]; simp [hl], hy⟩
    obtain ⟨l, hl, hli⟩ := hlist
    refine ⟨_, l, rfl, ⟨some a, cap, by rw [hl], by omega, hcm, fun _ => ⟨a, rfl, fun j hj o ho => ?_⟩⟩, fun y hy => ?_, ?_⟩
    · obtain ⟨y, hy, hc, _⟩ := hli j (by omega)
      rw [← add_add, hc o ho, List.getD_eq_getElem?_getD, List.getD_eq_getElem?_getD (l := l), hy]
      simp only [Option.getD_some]
      have hlen : o < (encA y).length := by
        obtain ⟨cs', hcc, htr⟩ := hall j (by omega)
        rw [hsz] at hcc
        have h3 := cells_get hcc
        have h4 := h3.2 o ho
        rw [hc o ho, List.getElem?_eq_getElem (show o < cs'.length by omega)] at h4
        exact (List.getElem?_eq_some_iff.1 h4).1
      rw [List.getElem?_eq_getElem hlen]; rfl
    · obtain ⟨i, hi, rfl⟩ := List.mem_iff_getElem.1 hy
      obtain ⟨y, hy2, _, hok⟩ := hli i (by omega)
      rw [List.getElem?_eq_getElem hi] at hy2
      cases hy2
      exact hok
    · rw [hl]
      refine Nat.le_trans ?_ hbig
      simp only [List.length_map, List.length_range]
      exact Nat.mul_le_mul_right _ (by omega)
theorem tl (o n : Nat) (cs : List Value) : cs.drop o = (cs.drop o).take n ++ cs.drop (o + n) := by rw [← List.drop_drop, List.take_append_drop]
theorem tlz {o : Nat} {cs : List Value} (h : cs.length = o) : cs.drop o = [] := by rw [List.drop_eq_nil_of_le (by omega)]
theorem arg_agg {H : Type} {base : Nat} {v : Value} {d : DataW H} {enc : TypeId × Value → H} {ps : List MemPlace} {sp : Nat → Bool} {held : Bool} {φ : List Value → Prop} {fs : Array Field} (ht : P.underlying t = some (.struct fs)) (hval : Value.okWide P w .any base t v) (h : DataW.Trod enc P w 0 sp held t v d ps) (hb : Wb P t d) (ho : Opn P w t φ) : ∃ cs, v = .agg cs ∧ φ cs.toList := by
  simp only [Value.okWide, ht] at hval
  obtain ⟨cs, rfl, _⟩ := hval
  obtain ⟨fuel, hf⟩ := h
  exact ⟨cs, rfl, ho H enc sp held fuel _ _ hf hb⟩
theorem Bd_each {H : Type} {ts : List TypeId} {ds : List (DataW H)} (h : (DataW.weightsEach P ts ds).all (· ≤ reachBytes) = true) {j : Nat} {d : DataW H} (ht : ts[j]? = some t) (hd : ds[j]? = some d) : Wb P t d := fun n hn => by
  have := List.all_eq_true.1 h n (DataW.weights_mem_each ht hd n hn)
  simpa using this
theorem trodAll_stays {H : Type} {enc : TypeId × Value → H} (hl : laidOutB P = true) {W W' : World} {sp' : Nat → Bool} : ∀ {ts : List TypeId} {vs : List Value} {ds : List (DataW H)} {ps : List MemPlace}, (∀ u ∈ ts, P.readableRec u = true ∧ u < P.types.size) →
    DataW.TrodAll enc P W 0 (fun _ => true) true ts vs ds ps → (∀ p ∈ ps, W.sameAt W' p) → (∀ p ∈ ps, sp' p.block = true) → DataW.TrodAll enc P W' 0 sp' true ts vs ds ps
  | [], vs, ds, ps, _, h, _, _ => by obtain ⟨rfl, rfl, rfl⟩ := trodAll_nil h; exact rfl
  | u :: ts, vs, ds, ps, hr, h, h1, h2 => by
    obtain ⟨v, vs', d, ds', p, q, rfl, rfl, rfl, ha, hb⟩ := trodAll_cons h
    have hu := hr u List.mem_cons_self
    exact ⟨p, q, WideElems.Trod_stays hl hu.1 hu.2 ha (fun x hx => h1 x (List.mem_append.2 (.inl hx))) (fun x hx => h2 x (List.mem_append.2 (.inl hx))),
      trodAll_stays hl (fun x hx => hr x (List.mem_cons_of_mem _ hx)) hb (fun x hx => h1 x (List.mem_append.2 (.inr hx))) (fun x hx => h2 x (List.mem_append.2 (.inr hx))), rfl⟩
theorem law_post {H : Type} {enc : TypeId × Value → H} {f : Func} {s : ChangeSpec} {W W' : World} {args : Array Value} {ds gs : List (DataW H)} {before : List MemPlace} {tb : TypeId} (hl : laidOutB P = true) (hts : ∀ u ∈ f.params.toList, P.readableRec u = true ∧ u < P.types.size)
    (hW : DataW.Whole enc P f.params.toList s.vars false W args.toList ds gs before) (hv : s.vars = []) (hr : f.resultTypes = #[tb]) (htb : P.underlying tb = some .bool)
    (hs1 : (s.fn H (ds ++ gs)).results = [.lit (.bool true)]) (hs2 : (s.fn H (ds ++ gs)).args = ds) (hs3 : (s.fn H (ds ++ gs)).vars = []) (hb : Below W.heap.size W W') :
    s.post enc P f false true false false W args (.bool true) W' := by
  have hlt : ∀ p ∈ before, p.block < W.heap.size := hW.lt
  have hW2 := hW
  obtain ⟨pa, pv, h1, h2, rfl, hz, hn⟩ := hW
  have hpv : pv = [] := by rw [hv] at h2; exact (trodVars_none h2).2
  subst hpv
  have hres : ∀ (b : Nat) (sp : Nat → Bool) (hd : Bool), DataW.TrodAll enc P W' b sp hd f.resultTypes.toList ((Value.bool true).resultList f.resultTypes.size) (s.fn H (ds ++ gs)).results [] := fun b sp hd => by
    rw [hr, hs1]
    exact trodAll_cons_mk (shut_bool htb true) trodAll_mk0
  have hargs : ∀ sp : Nat → Bool, (∀ p ∈ pa ++ [], sp p.block = true) → DataW.TrodAll enc P W' 0 sp true f.params.toList args.toList (s.fn H (ds ++ gs)).args pa := fun sp hsp => by
    rw [hs2]
    exact trodAll_stays hl hts h1 (fun p hp => hb.same (hlt p (by simpa using hp))) (fun p hp => hsp p (by simpa using hp))
  have hvars : ∀ sp : Nat → Bool, DataW.TrodVars enc P W' sp s.vars (s.fn H (ds ++ gs)).vars [] := fun sp => by
    rw [hv, hs3]; exact rfl
  have hold : ∀ p ∈ pa ++ [], (fun b => decide (b < W.heap.size)) p.block = true := fun p hp => by simpa using hlt p hp
  refine ⟨ds, gs, _, [], pa, [], hW2, hres _ _ _, hargs _ hold, hvars _, World.keptBut_mono (fun p hp => hp) (hb.frame _), fun _ => ?_⟩
  refine ⟨ok_one hr rfl (okWide_bool_mk htb true), _, _, ([] ++ pa) ++ [], ⟨[] ++ pa, [], trodAll_append (hargs _ (fun _ _ => rfl)) (hres _ _ _), hvars _, rfl, ?_, ?_⟩, ?_⟩
  · intro b off hp
    have hp' : MemPlace.cell b off ∈ pa ++ [] := by simpa using hp
    have := hlt _ hp'
    rw [hb.frozen (p := ⟨b, off, none⟩) this]
    exact hz b off hp'
  · intro ha; cases ha
  · intro p hp _
    simpa using hp
end
end Go.Proofs.YtamimgmoomcipaaDoor.Eng
namespace Go.Proofs.YtamimgmoomcipaaDoor.Eng
open Go Go.RowKit
set_option linter.unusedVariables false
set_option linter.unusedSimpArgs false
structure RO where (e sz : Nat) (α : Type) (li : List α) (enc : α → List Value) (z : α)
def RO.he (x : RO) : HE := .sl .ro x.e x.sz x.li x.enc x.z
def addRs (s : AS) : List RO → AS
  | [] => s
  | x :: r => addRs (s.add x.he) r
def updRs (n : Vn) (nx : Nat) : List Value → Vn
  | [] => n
  | v :: r => updRs (upd n nx v) (nx + 1) r
def fineRs (B : Nat) (w' : World) : List RO → List Value → Prop
  | [], [] => True
  | x :: r, v :: q => (Reads w' v x.sz x.li x.enc x.z ∧ ∀ g, vblk v = some g → 0 < x.li.length → B ≤ g) ∧ fineRs B w' r q
  | _, _ => False
def encRs : List RO → Prop
  | [] => True
  | x :: r => (0 < x.sz ∧ ∀ y, (x.enc y).length = x.sz) ∧ encRs r
theorem updRs_lt : ∀ (vs : List Value) (n : Vn) (nx id : Nat), id < nx → updRs n nx vs id = n id
  | [], n, nx, id, h => rfl
  | v :: r, n, nx, id, h => by
    simp only [updRs]
    rw [updRs_lt r _ _ _ (Nat.lt_succ_of_lt h), upd_lt n nx v id h]
section
variable {P : Program} {tt : TT} {cx : Cx} {s s' : AS} {Q : Exit → AS → Prop} {ops : Array Oper} {l : List Oper}
theorem reads_lt {w : World} {v : Value} {sz : Nat} {α : Type} {li : List α} {enc : α → List Value} {z : α} (h : Reads w v sz li enc z) (hp : 0 < li.length) (hs : 0 < sz) : ∀ g, vblk v = some g → g < w.heap.size := fun g hg => by
  obtain ⟨A, c, rfl, _, _, hr⟩ := h
  obtain ⟨ad, rfl, hc⟩ := hr hp
  have := hc 0 hp 0 hs
  cases hg
  have h2 := World.block_lt_of_cell? w _ this
  simpa [add_block] using h2
theorem HSat.addRs {n : Vn} {w w' : World} (hh0 : HSat cx n s w) (hb : Below w.heap.size w w') : ∀ (rs : List RO) (vs : List Value), encRs rs → fineRs w.heap.size w' rs vs → HSat cx (updRs n s.nx vs) (addRs s rs) w' := by
  have key : ∀ (rs : List RO) (vs : List Value) (n' : Vn) (s1 : AS), HSat cx n' s1 w' → (∀ x ∈ s1.hp, x.2.mut = true → ∀ g, x.2.foot (n' x.1) g → g < w.heap.size) → encRs rs → fineRs w.heap.size w' rs vs → HSat cx (updRs n' s1.nx vs) (Eng.addRs s1 rs) w' := by
    intro rs
    induction rs with
    | nil =>
      intro vs n' s1 h1 h2 _ h3
      cases vs with
      | nil => exact h1
      | cons v r => exact h3.elim
    | cons x r ih =>
      intro vs n' s1 h1 h2 he h3
      cases vs with
      | nil => exact h3.elim
      | cons v q =>
        obtain ⟨⟨hr, hf⟩, h4⟩ := h3
        have hadd : HSat cx (upd n' s1.nx v) (s1.add x.he) w' := h1.add (Below.refl _ _) (by obtain ⟨A, c, rfl, _⟩ := hr; rfl) ⟨he.1.2, hr⟩ trivial (fun g hg => reads_lt hr hg.2 he.1.1 g hg.1) (fun g hg => .inr fun y hy hm hyg => by
          have hm' : y.2.mut = true := hm.elim (fun h => by cases h) (fun h => h)
          have := h2 y hy hm' g hyg
          have := hf g hg.1 hg.2
          omega)
        refine ih q _ _ hadd (fun y hy hm g hg => ?_) he.2 h4
        rcases List.mem_cons.1 hy with rfl | hy
        · cases hm
        · have : upd n' s1.nx v y.1 = n' y.1 := upd_lt n' s1.nx v _ (h1.ids y hy)
          rw [this] at hg
          exact h2 y hy hm g hg
  exact fun rs vs he hf => key rs vs n s (hh0.below hb) (fun x hx _ g hg => hh0.lt x hx g hg) he hf
theorem addRs_more : ∀ (rs : List RO) (s : AS), More s (addRs s rs)
  | [], s => ⟨Nat.le_refl _, fun id _ e he => ⟨e, he, Nat.le_refl _⟩⟩
  | x :: r, s => More.trans (More.add s _) (addRs_more r _)
theorem addRs_env : ∀ (rs : List RO) (s : AS), (addRs s rs).env = s.env ∧ (addRs s rs).nt = s.nt ∧ (addRs s rs).df = s.df
  | [], s => ⟨rfl, rfl, rfl⟩
  | x :: r, s => addRs_env r (s.add x.he)
theorem CALLRS (k : FuncId) (vs : List AV) (r : AV) (rs : List RO) (nx : Nat) (hnx : s.nx = nx) (h : (callA ops s l).map (fun x => (x.1, x.2.1)) = some (k, vs)) (hgo : goes P k)
    (hp : (callPN ops s l (addRs s rs) r).isSome = true) (hr : okB (addRs s rs) r = true) (henc : encRs rs)
    (hcall : ∀ n w, HSat cx n s w → Calls P k (vs.map (AV.c n)).toArray w fun e' w' => ∃ us, e' = .returned (r.c (updRs n nx us)) ∧ Below w.heap.size w w' ∧ fineRs w.heap.size w' rs us)
    (hK : WPO P cx ops l.tail ((callPN ops s l (addRs s rs) r).getD s) Q) : WPO P cx ops l s Q := by
  subst hnx
  exact CALLN k vs (addRs s rs) r h hgo hp hr (addRs_more rs s) (addRs_env rs s) (fun n w hh => (hcall n w hh).mono fun e' w' ⟨us, h1, h2, h3⟩ => ⟨updRs n s.nx us, fun id hid => updRs_lt us n s.nx id hid, h1, hh.addRs h2 rs us henc h3⟩) hK
end
end Go.Proofs.YtamimgmoomcipaaDoor.Eng
namespace Go.Proofs.YtamimgmoomcipaaDoor.Eng
open Go Go.RowKit
set_option linter.unusedVariables false
set_option linter.unusedSimpArgs false
abbrev slF (v : Value) (sz : Nat) {α : Type} (li : List α) (enc : α → List Value) (z : α) : HE := .jf (fun w => Reads w v sz li enc z) (fun g => vblk v = some g ∧ 0 < li.length)
theorem Reads.stab0 {w1 w2 : World} {v : Value} {sz : Nat} {α : Type} {li : List α} {enc : α → List Value} {z : α} (h : Reads w1 v sz li enc z) (hw : ∀ g, vblk v = some g ∧ 0 < li.length → w2.heap[g]? = w1.heap[g]?) : Reads w2 v sz li enc z := by
  by_cases hp : 0 < li.length
  · exact h.stab fun g hg => hw g ⟨hg, hp⟩
  · obtain ⟨A, c, rfl, h2, h3, _⟩ := h
    exact ⟨A, c, rfl, h2, h3, fun h => absurd h hp⟩
def addFs (s : AS) : List RO → List Value → AS
  | x :: r, v :: q => addFs (s.add (slF v x.sz x.li x.enc x.z)) r q
  | _, _ => s
def nilF (n : Vn) (nx : Nat) : List RO → Vn
  | [] => n
  | _ :: r => nilF (upd n nx .nilFunc) (nx + 1) r
theorem nilF_lt : ∀ (rs : List RO) (n : Vn) (nx id : Nat), id < nx → nilF n nx rs id = n id
  | [], n, nx, id, h => rfl
  | _ :: r, n, nx, id, h => by
    simp only [nilF]
    rw [nilF_lt r _ _ _ (Nat.lt_succ_of_lt h), upd_lt n nx _ id h]
section
variable {P : Program} {tt : TT} {cx : Cx} {s s' : AS} {Q : Exit → AS → Prop} {ops : Array Oper} {l : List Oper}
def apartF (rs : List RO) (vs : List Value) : Prop := (rs.zip vs).Pairwise fun x y => ∀ g, vblk x.2 = some g → 0 < x.1.li.length → vblk y.2 = some g → 0 < y.1.li.length → False
theorem HSat.addFs {n : Vn} {w w' : World} (hh0 : HSat cx n s w) (hb : Below w.heap.size w w') (rs : List RO) (vs : List Value) (he : encRs rs) (hf : fineRs w.heap.size w' rs vs) (hap : apartF rs vs) : HSat cx (nilF n s.nx rs) (addFs s rs vs) w' := by
  have key : ∀ (rs : List RO) (vs : List Value) (n' : Vn) (s1 : AS), HSat cx n' s1 w' → (∀ x ∈ s1.hp, ∀ g, x.2.foot (n' x.1) g → g < w.heap.size ∨ ∀ y ∈ rs.zip vs, ¬ (vblk y.2 = some g ∧ 0 < y.1.li.length)) → encRs rs → fineRs w.heap.size w' rs vs → apartF rs vs → HSat cx (nilF n' s1.nx rs) (Eng.addFs s1 rs vs) w' := by
    intro rs
    induction rs with
    | nil =>
      intro vs n' s1 h1 h2 _ h3 _
      cases vs with
      | nil => exact h1
      | cons v r => exact h3.elim
    | cons x r ih =>
      intro vs n' s1 h1 h2 he h3 hap
      cases vs with
      | nil => exact h3.elim
      | cons v q =>
        obtain ⟨⟨hr, hf⟩, h4⟩ := h3
        obtain ⟨ha1, ha2⟩ := List.pairwise_cons.1 hap
        have hadd : HSat cx (upd n' s1.nx .nilFunc) (s1.add (slF v x.sz x.li x.enc x.z)) w' := h1.add (Below.refl _ _) rfl ⟨hr, fun g hg => hh0.fr.news g (Nat.le_trans hh0.fr.size (hf g hg.1 hg.2)), fun w1 w2 h hw => h.stab0 hw⟩ trivial (fun g hg => reads_lt hr hg.2 he.1.1 g hg.1) (fun g hg => .inr fun y hy _ hyg => by
          have h5 := hf g hg.1 hg.2
          rcases h2 y hy g hyg with h6 | h6
          · omega
          · exact h6 (x, v) List.mem_cons_self hg)
        refine ih q _ _ hadd (fun y hy g hg => ?_) he.2 h4 ha2
        rcases List.mem_cons.1 hy with rfl | hy
        · right
          intro z hz hzg
          have hg' : vblk v = some g ∧ 0 < x.li.length := hg
          exact ha1 z hz g hg'.1 hg'.2 hzg.1 hzg.2
        · have : upd n' s1.nx .nilFunc y.1 = n' y.1 := upd_lt n' s1.nx _ _ (h1.ids y hy)
          rw [this] at hg
          rcases h2 y hy g hg with h6 | h6
          · exact .inl h6
          · exact .inr fun z hz => h6 z (List.mem_cons_of_mem _ hz)
  exact key rs vs n s (hh0.below hb) (fun x hx g hg => .inl (hh0.lt x hx g hg)) he hf hap
theorem addFs_nx : ∀ (rs : List RO) (vs : List Value) (s : AS), More s (addFs s rs vs)
  | [], vs, s => ⟨Nat.le_refl _, fun id _ e he => ⟨e, by simpa [addFs] using he, Nat.le_refl _⟩⟩
  | _ :: _, [], s => ⟨Nat.le_refl _, fun id _ e he => ⟨e, he, Nat.le_refl _⟩⟩
  | x :: r, v :: q, s => More.trans (More.add s _) (addFs_nx r q _)
theorem addFs_env : ∀ (rs : List RO) (vs : List Value) (s : AS), (addFs s rs vs).env = s.env ∧ (addFs s rs vs).nt = s.nt ∧ (addFs s rs vs).df = s.df
  | [], vs, s => ⟨rfl, rfl, rfl⟩
  | _ :: _, [], s => ⟨rfl, rfl, rfl⟩
  | x :: r, v :: q, s => addFs_env r q _
theorem slF_lt {n0 n : Vn} {w0 w : World} {m : Nat} (h : HSat (cx0 w0 n0 m) n s w) {id : Nat} {v : Value} {sz : Nat} {α : Type} {li : List α} {enc : α → List Value} {z : α} (hf : fnd s.hp id = some (slF v sz li enc z)) : Reads w v sz li enc z ∧ ∀ g, vblk v = some g → 0 < li.length → w0.heap.size ≤ g :=
  ⟨(h.ents _ (fnd_mem hf)).1, fun g hg hp => (h.ents _ (fnd_mem hf)).2.1 g ⟨hg, hp⟩⟩
def apart1 (x : RO) (v : Value) : List RO → List Value → Prop
  | y :: r, u :: q => (∀ g, vblk v = some g → 0 < x.li.length → vblk u = some g → 0 < y.li.length → False) ∧ apart1 x v r q
  | _, _ => True
def apartL : List RO → List Value → Prop
  | x :: r, v :: q => apart1 x v r q ∧ apartL r q
  | _, _ => True
theorem apart1_mem {x : RO} {v : Value} : ∀ {rs : List RO} {vs : List Value}, apart1 x v rs vs → ∀ y ∈ rs.zip vs, ∀ g, vblk v = some g → 0 < x.li.length → vblk y.2 = some g → 0 < y.1.li.length → False
  | y :: r, u :: q, h, z, hz => by
    rcases List.mem_cons.1 hz with rfl | hz
    · exact h.1
    · exact apart1_mem h.2 z hz
  | [], _, _, z, hz => by cases hz
  | _ :: _, [], _, z, hz => by cases hz
theorem apartL_F : ∀ {rs : List RO} {vs : List Value}, apartL rs vs → apartF rs vs
  | x :: r, v :: q, h => List.Pairwise.cons (fun y hy => apart1_mem h.1 y hy) (apartL_F h.2)
  | [], _, _ => List.Pairwise.nil
  | _ :: _, [], _ => List.Pairwise.nil
theorem own_lt {n0 n : Vn} {w0 w : World} {m : Nat} (h : HSat (cx0 w0 n0 m) n s w) {id : Nat} {e : TypeId} {sz : Nat} {α : Type} {li : List α} {enc : α → List Value} {z : α} (hf : fnd s.hp id = some (.sl .own e sz li enc z)) : Reads w (n id) sz li enc z ∧ ∀ g, vblk (n id) = some g → 0 < li.length → w0.heap.size ≤ g :=
  ⟨h.reads hf, fun g hg _ => (h.ents _ (fnd_mem hf)).2.1 g hg⟩
theorem own_apart {n : Vn} {w : World} (h : HSat cx n s w) {i j : Nat} {x y : HE} (hi : fnd s.hp i = some x) (hj : fnd s.hp j = some y) (hij : i ≠ j) (hm : x.mut = true) : ∀ g, x.foot (n i) g → ¬ y.foot (n j) g := fun g h1 h2 => by
  have hsym : ∀ (x y : Nat × HE), ((x.2.mut = true ∨ y.2.mut = true) → ∀ g, x.2.foot (n x.1) g → ¬ y.2.foot (n y.1) g) → ((y.2.mut = true ∨ x.2.mut = true) → ∀ g, y.2.foot (n y.1) g → ¬ x.2.foot (n x.1) g) :=
    fun x y h hm g h1 h2 => h hm.symm g h2 h1
  exact pw_mem hsym h.sep (fnd_mem hi) (fnd_mem hj) (fun e => hij (congrArg Prod.fst e)) (.inl hm) g h1 h2
theorem CALLF1 (k : FuncId) (vs : List AV) (r : Value → AV) (x0 : RO) (h : (callA ops s l).map (fun x => (x.1, x.2.1, x.2.2.2.2)) = some (k, vs, [])) (hgo : goes P k)
    (hp : ∀ (A0 : Option Addr) (c0 : Nat), (callPN ops s l (addFs s [x0] [.slice A0 x0.li.length c0]) (r (.slice A0 x0.li.length c0))).isSome = true) (hr : ∀ (A0 : Option Addr) (c0 : Nat), okB (addFs s [x0] [.slice A0 x0.li.length c0]) (r (.slice A0 x0.li.length c0)) = true) (hrc : ∀ (A0 : Option Addr) (c0 : Nat) n n', (r (.slice A0 x0.li.length c0)).c n = (r (.slice A0 x0.li.length c0)).c n') (henc : encRs [x0])
    (hcall : ∀ n w, HSat cx n s w → Calls P k (vs.map (AV.c n)).toArray w fun e' w' => ∃ v0, e' = .returned ((r v0).c n) ∧ Below w.heap.size w w' ∧ fineRs w.heap.size w' [x0] [v0] ∧ apartL [x0] [v0])
    (hK : ∀ (A0 : Option Addr) (c0 : Nat), WPO P cx ops l.tail ((callPN ops s l (addFs s [x0] [.slice A0 x0.li.length c0]) (r (.slice A0 x0.li.length c0))).getD s) Q) : WPO P cx ops l s Q :=
  CALLX (σ := Option Addr × Nat) k vs (fun u => addFs s [x0] [.slice u.1 x0.li.length u.2]) (fun u => r (.slice u.1 x0.li.length u.2)) h hgo (fun u => hp (u.1) (u.2)) (fun u => hr (u.1) (u.2)) (fun u => addFs_nx _ _ _) (fun u => addFs_env _ _ _)
    (fun n w hh => (hcall n w hh).mono fun e' w' ⟨v0, h1, h2, h3, h4⟩ => by
    obtain ⟨A0, c0, rfl, _⟩ : ∃ A c, v0 = .slice A x0.li.length c ∧ True := (by obtain ⟨A, c, h, _⟩ := (h3.1).1; exact ⟨A, c, h, trivial⟩)
    exact ⟨(A0, c0), nilF n s.nx [x0], fun id hid => nilF_lt _ n s.nx id hid, by rw [h1]; exact congrArg _ (hrc A0 c0 n _), hh.addFs h2 _ _ henc h3 (apartL_F h4)⟩) (fun u => hK (u.1) (u.2))
end
end Go.Proofs.YtamimgmoomcipaaDoor.Eng
namespace Go.Proofs.YtamimgmoomcipaaDoor.Eng
open Go Go.RowKit
set_option linter.unusedVariables false
set_option linter.unusedSimpArgs false
theorem weak_fresh {p : Value → Prop} {w w' : World} {sz : Nat} {α : Type} {li : List α} {enc : α → List Value} {z : α} (h : ∃ v, p v ∧ Below w.heap.size w w' ∧ Reads w' v sz li enc z ∧ (∀ g, vblk v = some g → w.heap.size ≤ g ∧ g < w'.heap.size)) :
    ∃ v, p v ∧ Below w.heap.size w w' ∧ Reads w' v sz li enc z ∧ (∀ g, vblk v = some g → 0 < li.length → w.heap.size ≤ g) := by
  obtain ⟨v, h1, h2, h3, h4⟩ := h
  exact ⟨v, h1, h2, h3, fun g hg _ => (h4 g hg).1⟩
def litGA (tt : TT) (ops : Array Oper) (s : AS) : List Oper → Option (TypeId × Nat × List AC × Option Tmp × List (Nat × Bool))
  | o :: _ => match o.op, gTag s ops o with
    | .buildSlice t m ps, some T => match tyL tt t with
      | some ⟨_, _, _, .slice e⟩ => match tyL tt e, evs s T ps.toList with
        | some i, some vs => bif Nat.ble 1 i.size && Nat.beq (avOf i.zero).cells.length i.size && Nat.ble (m * i.size) 16777216 then (fillA (fun j => some (j * i.size, i.size)) (zrep m (avOf i.zero).cells) vs).map fun cs => (e, m, cs, o.dst, T) else none
        | _, _ => none
      | _ => none
    | _, _ => none
  | [] => none
def litGP (tt : TT) (ops : Array Oper) (s : AS) (l : List Oper) (s1 : AS) : Option AS :=
  match litGA tt ops s l with
  | some (_, _, _, d, T) => s1.put d T (.s (.ref s.nx))
  | none => none
section
variable {P : Program} {tt : TT} {cx : Cx} {s s' : AS} {Q : Exit → AS → Prop} {ops : Array Oper} {l : List Oper}
theorem LITG (hT : TTok P tt) (T : List (Nat × Bool)) (c : Bool) (e : TypeId) (m sz : Nat) (cs : List AC) {α : Type} (li : List α) (enc : α → List Value) (z : α)
    (h : (litGA tt ops s l).map (fun x => (x.1, x.2.1, x.2.2.1, x.2.2.2.2)) = some (e, m, cs, T)) (hc : cndT s T = some c) (hm : m = li.length) (henc : ∀ y, (enc y).length = sz) (hcs : ∀ n, cs.map (AC.c n) = flat li enc)
    (hp : (litGP tt ops s l (s.add (.sl .own e sz (bif c then li else []) enc z))).isSome = true)
    (hK : WPO P cx ops l.tail ((litGP tt ops s l (s.add (.sl .own e sz (bif c then li else []) enc z))).getD s) Q) : WPO P cx ops l s Q := by
  obtain ⟨⟨e', m', cs', d, T'⟩, ha, he'⟩ := Option.map_eq_some_iff.1 h
  simp only [Prod.mk.injEq] at he'
  obtain ⟨rfl, rfl, rfl, rfl⟩ := he'
  obtain ⟨s', hs'⟩ := Option.isSome_iff_exists.1 hp
  rw [hs'] at hK
  simp only [litGP, ha] at hs'
  cases l with
  | nil => cases ha
  | cons o rest =>
    simp only [litGA] at ha
    split at ha <;> try (cases ha; done)
    rename_i t m2 ps T2 ho hg
    split at ha <;> try (cases ha; done)
    rename_i z1 b1 zv1 e2' ht
    split at ha <;> try (cases ha; done)
    rename_i i vs hi hvs
    rcases hb : (Nat.ble 1 i.size && Nat.beq (avOf i.zero).cells.length i.size && Nat.ble (m2 * i.size) 16777216) with _ | _
    · rw [hb] at ha; cases ha
    · rw [hb] at ha
      simp only [Bool.and_eq_true] at hb
      obtain ⟨cs2, hcs2, he⟩ := Option.map_eq_some_iff.1 ha
      simp only [Prod.mk.injEq] at he
      obtain ⟨rfl, rfl, rfl, rfl, rfl⟩ := he
      have hb1 := Nat.le_of_ble_eq_true hb.1.1
      have hb2 := Nat.eq_of_beq_eq_true hb.1.2
      have hb3 := Nat.le_of_ble_eq_true hb.2
      intro n a w hs
      have hgt := gTag_sound hs hg
      have hcc := cndT_spec hs.env hc
      by_cases hH : Holds a T2
      · have hct := hcc.1 hH
        subst hct
        obtain ⟨F⟩ := hT.get ht
        obtain ⟨G⟩ := hT.get hi
        have hd : F.desc = .slice e2' := by
          have := F.td
          cases hd : F.desc <;> rw [hd] at this <;> simp only [tdOf] at this <;> first
            | (cases this; done)
            | (injection this with h; rw [h])
        obtain ⟨e1, e2, e3⟩ := evs_sound hs.env hH hvs
        have hzok : cellsOk s (avOf i.zero).cells := cells_ok (avOf_ok s _)
        have hok : cellsOk s cs2 := fill_ok (zrep_ok hzok m2) (fun x hx => cells_ok (e3 x hx)) hcs2
        have hm : m2 ≤ 16777216 := Nat.le_trans (Nat.le_mul_of_pos_right _ hb1) hb3
        have hrun : (execOp a.eval o).run P w = .ok (.value (.slice (some ⟨w.heap.size, 0, none⟩) m2 m2)) (w.alloc (.cells (cellsV n cs2) e2')) := by
          unfold execOp
          rw [ho]
          have hps : (ps.map fun x => (x.1, a.eval x.2)) = (vs.map fun x => (x.1, x.2.c n)).toArray := by
            apply Array.ext'
            simpa using e1
          have hf := fill_sound (n := n) hs.heap.one e2 hcs2
          have hzc : (i.zero).cells = ((avOf i.zero).cells.map (AC.c n)).toArray := zero_cells n
          rw [zrep_c (by omega), hb2] at hf
          have hnz : ¬ m2 * i.size > 2 ^ 24 := by simp; omega
          simp only [hps, Instr.buildSlice, Sem.run_bind, run_underlying F.hdesc, hd, Result.andThen_ok, run_sizeOf' G]
          rw [if_neg hnz]
          by_cases h0 : m2 * i.size = 0
          · rw [if_pos h0]
            simp only [Sem.run_pure, Result.andThen_ok, Sem.run_bind]
            rw [h0] at hf ⊢
            have hr : ∀ f : Nat → Value, (Array.range 0).map f = #[] := fun f => Array.ext' (by simp)
            simp only [hr] at hf ⊢
            simp only [hf, newRow, Sem.run_bind, run_newObj, Result.andThen_ok, Sem.run_pure, World.alloc_eq]
          · rw [if_neg h0]
            simp only [Sem.run_bind, run_zero' G, Result.andThen_ok, Sem.run_pure]
            rw [hzc]
            simp only [hf, newRow, Sem.run_bind, run_newObj, Result.andThen_ok, Sem.run_pure, World.alloc_eq]
        have hlen : (flat li enc).length = li.length * sz := flat_len henc li
        have hst : Sat cx (upd n s.nx (.slice (some ⟨w.heap.size, 0, none⟩) m2 m2)) (s.add (.sl .own e2' sz li enc z)) a (w.alloc (.cells (cellsV n cs2) e2')) := by
          refine env_add hs (upd_lt _ _ _) (hs.heap.add ((Below.refl _ _).alloc (Nat.le_refl _) _) rfl ⟨henc, fun g hg => ?_, hlen, .inr ⟨w.heap.size, li.length, cellsV n cs2, by rw [‹m2 = li.length›], Nat.zero_le _, by rw [heap_alloc_new], Nat.le_refl _, by rw [← ‹m2 = li.length›]; simp only [maxLen]; omega, ?_, ?_⟩⟩ trivial (fun g hg => ?_) (fun g hg => ?_))
          · simp only [vblk] at hg; cases hg; exact hs.heap.fr.news _ hs.heap.fr.size
          · simp only [cellsV, List.size_toArray, List.length_map]
            have := congrArg List.length (hcs n)
            rw [List.length_map, hlen] at this
            exact this
          · simp only [cellsV]
            rw [hcs n, List.take_of_length_le (by rw [hlen]; exact Nat.le_refl _)]
          · simp only [HE.foot, vblk] at hg; cases hg; simp
          · simp only [HE.foot, vblk] at hg; cases hg; exact .inl (Nat.le_refl _)
        exact wp_value (hgt.2 hH) hrun (hK _ _ _ (put_sat hst hs' (fun _ => ⟨by simp only [AV.c, AC.c, upd_same], Nat.lt_succ_self _⟩) (fun hn => absurd hH hn)))
      · have hcf : c = false := by cases c; rfl; exact absurd (hcc.2 rfl) hH
        subst hcf
        have hh : HSat cx (upd n s.nx (.slice none 0 0)) (s.add (.sl .own e2' sz ([] : List α) enc z)) w :=
          hs.heap.add (Below.refl _ _) rfl ⟨henc, fun g hg => (by cases hg), by rw [show flat ([] : List α) enc = [] from rfl]; exact ⟨by simp, .inl ⟨rfl, by simp⟩⟩⟩ trivial (fun g hg => (by cases hg)) (fun g hg => (by cases hg))
        have hst := env_add hs (upd_lt n s.nx _) hh
        exact wp_pass (fun hw => hH (hgt.1 hw)) (hK _ _ _ (put_sat hst hs' (fun hH' => absurd hH' hH) (fun _ => rfl)))
end
end Go.Proofs.YtamimgmoomcipaaDoor.Eng
