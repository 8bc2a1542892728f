/-
  FairwayOne: for every five numbers the law returns true, and leaves them as they were. Conditions: none but the row's own.
-/
import Derived.Test.YtamimgmoomcipaaDoorFairwayOneA2
import Derived.ArgAppend
import Derived.Below
import Derived.Carry
import Derived.ChangeKeysEq
import Derived.ControlIn
import Derived.Deep.DeepHandedRow
import Derived.Deep.DeepWitnessRowRef
import Derived.Deep.Draws
import Derived.Deep.Quiet
import Derived.Deep.Slices
import Derived.KernelRfl
import Derived.LaidMore
import Derived.Laws.AppendOwn
import Derived.Laws.Cells
import Derived.Laws.CopyRow
import Derived.Laws.IdiomRangeMap
import Derived.Laws.Rows
import Derived.MapKept
import Derived.Maps.AppendAt
import Derived.OpenShut
import Derived.OrdersHeld
import Derived.OrdersIn
import Derived.ProofKit
import Derived.RangeFuncLeaves
import Derived.RangeFuncNested
import Derived.RangeFuncOwn
import Derived.SevenTiedAt
import Derived.SizedLaws
import Derived.Stop.Joined
import Derived.Test.YtamimgmoomcipaaDoorCards
import Derived.Test.YtamimgmoomcipaaDoorProg
import Derived.Test.YtamimgmoomcipaaDoorRows
import Derived.Test.YtamimgmoomcipaaDoorTie
import Derived.WalkKit
import Derived.WideKeyRuns
namespace Go.Proofs.YtamimgmoomcipaaDoor.Eng
open Go Go.RowKit
set_option linter.unusedVariables false
set_option linter.unusedSimpArgs false
def slenA (tt : TT) (ops : Array Oper) (s : AS) : List Oper → Option (AV × List (Bool × Bool) × Option Tmp × List (Nat × Bool))
  | o :: _ => match o.op, gTag s ops o with
    | .call c, some T => match c.callee, c.args.toList, c.argTypes.toList with
      | .builtin .len, [x], [t] => match tyL tt t, ev s T x with
        | some ⟨_, _, _, .slice _⟩, some v => some (v, tagL s T, o.dst, T)
        | _, _ => none
      | _, _, _ => none
    | _, _ => none
  | [] => none
def slenP (tt : TT) (ops : Array Oper) (s : AS) (l : List Oper) (N : Nat) : Option AS :=
  match slenA tt ops s l with
  | some (_, _, d, T) => s.put d T (.s (.int .i64 (N : Int)))
  | none => none
def slvA (tt : TT) (s : AS) (e : TypeId) (sz : Nat) (len : Nat) : List Oper → Option (AV × Int × Int × Option Int × Option Tmp)
  | o :: _ => match o.op, o.guard with
    | .slice t x lo hi mx, none => match ev s [] x with
      | some v => bif isSlK tt t e && isSz tt e sz && (mx.isNone || hi.isSome) then
            match bnd s 0 lo, bnd s len hi, (match mx with | none => some none | some m => (bnd s 0 (some m)).map some : Option (Option Int)) with
            | some i, some j, some m => some (v, i, j, m, o.dst)
            | _, _, _ => none
          else none
      | _ => none
    | _, _ => none
  | [] => none
section
variable {P : Program} {tt : TT} {cx : Cx} {s s' : AS} {Q : Exit → AS → Prop} {ops : Array Oper} {l : List Oper}
theorem slen_sound (hT : TTok P tt) {v : AV} {G : List (Bool × Bool)} {d : Option Tmp} {T : List (Nat × Bool)} (h : slenA tt ops s l = some (v, G, d, T)) (N : Nat) : ∃ (o : Oper) (rest : List Oper), l = o :: rest ∧ gTag s ops o = some T ∧ d = o.dst ∧ G = tagL s T ∧
    ∀ (cx : Cx) n a w, HSat cx n s w → (∀ x ∈ s.env, EntOk n s a x) → Holds a T → (∃ A c, v.c n = .slice A N c) →
      (execOp a.eval o).run P w = .ok (.value (.int .i64 (N : Int))) w := by
  cases l with
  | nil => cases h
  | cons o rest =>
    simp only [slenA] at h
    split at h <;> try (cases h; done)
    rename_i c T' ho hg
    split at h <;> try (cases h; done)
    rename_i x t hc hargs htys
    split at h <;> try (cases h; done)
    rename_i z1 b1 zv k v' ht hx
    simp only [Option.some.injEq, Prod.mk.injEq] at h
    obtain ⟨rfl, rfl, rfl, rfl⟩ := h
    refine ⟨o, rest, rfl, hg, rfl, rfl, fun cx n a w hh henv hH hm => ?_⟩
    obtain ⟨A, cp, hv⟩ := hm
    obtain ⟨F⟩ := hT.get ht
    have hd : F.desc = .slice k := by
      have := F.td
      cases hd : F.desc <;> rw [hd] at this <;> simp only [tdOf] at this <;> first
        | (cases this; done)
        | (injection this with h1; rw [h1])
    obtain ⟨e1, _⟩ := ev_sound henv hH hx
    have ha : c.args = #[x] := by apply Array.ext'; simpa using hargs
    have hty : c.argTypes = #[t] := by apply Array.ext'; simpa using htys
    unfold execOp
    rw [ho]
    simp only [resolve, hc, ha, hty, Sem.run_bind, Sem.run_pure, Result.andThen_ok, invoke]
    simp [builtin, Builtin.len_, e1, hv, run_underlying F.hdesc, hd, goInt]
theorem SLEN (hT : TTok P tt) (v : AV) (G : List (Bool × Bool)) (N : Nat) (h : (slenA tt ops s l).map (fun z => (z.1, z.2.1)) = some (v, G)) (hm : AllEq G → ∀ n w, HSat cx n s w → ∃ A c, v.c n = .slice A N c)
    (hp : (slenP tt ops s l N).isSome = true) (hK : WPO P cx ops l.tail ((slenP tt ops s l N).getD s) Q) : WPO P cx ops l s Q := by
  obtain ⟨⟨v', G', d, T⟩, hr, he⟩ := Option.map_eq_some_iff.1 h
  simp only [Prod.mk.injEq] at he
  obtain ⟨rfl, rfl⟩ := he
  obtain ⟨o, rest, rfl, hg, rfl, rfl, hrun⟩ := slen_sound (P := P) hT hr N
  obtain ⟨s', hs'⟩ := Option.isSome_iff_exists.1 hp
  rw [hs'] at hK
  simp only [slenP, hr] at hs'
  exact WPO_val hg hs' (fun hp n a w hh henv hH => ⟨hrun cx n a w hh henv hH (hm (tagP_all hp) n w hh), trivial⟩) hK
theorem SLVF (hT : TTok P tt) (id : Nat) (v0 : Value) (e : TypeId) (sz : Nat) {α : Type} (li : List α) (enc : α → List Value) (z : α) (d : Option Tmp) (h : slvA tt s e sz li.length l = some (.s (.v v0), 0, (li.length : Int), some (li.length : Int), d)) (hf : fnd s.hp id = some (slE v0 sz li enc z))
    (hp : ∀ v, (AS.put (AS.add { s with hp := rem s.hp id } (slE v sz li enc z)) d [] (.s (.v v))).isSome = true)
    (hK : ∀ v, WPO P cx ops l.tail ((AS.put (AS.add { s with hp := rem s.hp id } (slE v sz li enc z)) d [] (.s (.v v))).getD s) Q) : WPO P cx ops l s Q := by
  cases l with
  | nil => cases h
  | cons o rest =>
    simp only [slvA] at h
    split at h <;> try (cases h; done)
    rename_i t x lo hi mx' ho hg
    split at h <;> try (cases h; done)
    rename_i v' hx
    rcases hb : (isSlK tt t e && isSz tt e sz && (mx'.isNone || hi.isSome)) with _ | _
    · rw [hb] at h; cases h
    · rw [hb] at h
      simp only [Bool.and_eq_true] at hb
      simp only [cond_true] at h
      split at h <;> try (cases h; done)
      rename_i i' j' m' hlo hhi hmx
      simp only [Option.some.injEq, Prod.mk.injEq] at h
      obtain ⟨rfl, rfl, rfl, rfl, rfl⟩ := h
      intro n a w hs
      have hw : Region.wanted o (yielded ops a.tmps) = true := by simp [Region.wanted, hg]
      have hH : Holds a [] := fun x hx => by cases hx
      obtain ⟨tti, htt, htd⟩ := Option.map_eq_some_iff.1 (isSlK_spec hb.1.1)
      obtain ⟨ei, hee, hes⟩ := Option.map_eq_some_iff.1 (isSz_spec hb.1.2)
      obtain ⟨F⟩ := hT.get htt
      obtain ⟨G⟩ := hT.get hee
      have hd : F.desc = .slice e := by
        have := F.td
        rw [htd] at this
        cases hd : F.desc <;> rw [hd] at this <;> simp only [tdOf] at this <;> first
          | (cases this; done)
          | (injection this with h; rw [h])
      have he0 := hs.heap.ents _ (fnd_mem hf)
      have hr : Reads w v0 sz li enc z := he0.1
      obtain ⟨A, c, hv, hlc, hcm, hA⟩ := he0.1
      obtain ⟨ex, _⟩ := ev_sound hs.env hH hx
      simp only [AV.c, AC.c] at ex
      have hbnd : ∀ (dv : Int) (q : Option Operand) (r : Int), bnd s dv q = some r → bv dv (q.map a.eval) r := fun dv q r hq => by
        cases q with
        | none => simp only [bnd] at hq; cases hq; rfl
        | some q =>
          simp only [bnd] at hq
          split at hq
          · rename_i r' hr'
            cases hq
            obtain ⟨e1, _⟩ := ev_sound hs.env hH hr'
            exact e1
          · cases hq
      have hmv : bv (c : Int) (mx'.map a.eval) (li.length : Int) := by
        cases mx' with
        | none => cases hmx
        | some q =>
          obtain ⟨m, hm, hm2⟩ := Option.map_eq_some_iff.1 hmx
          cases hm2
          exact hbnd 0 (some q) _ hm
      have hrun : (execOp a.eval o).run P w = .ok (.value (.slice (if ((li.length : Nat) : Int).toNat = (0 : Int).toNat then A else A.map (·.add ((0 : Int).toNat * sz))) (((li.length : Nat) : Int).toNat - (0 : Int).toNat) (((li.length : Nat) : Int).toNat - (0 : Int).toNat))) w := by
        unfold execOp
        rw [ho]
        have hbs := run_bounds (P := P) (w := w) (len := li.length) (cap := c) (lo := lo.map a.eval) (hi := hi.map a.eval) (mx := mx'.map a.eval) (i := 0) (j := (li.length : Int)) (m := (li.length : Int)) (hbnd 0 lo 0 hlo) (hbnd _ hi _ hhi) hmv (by simpa using hb.2) ⟨by omega, by omega, by omega, by omega⟩
        simp only [Instr.sliceAt, ex, hv, Sem.run_bind, run_underlying F.hdesc, hd, Result.andThen_ok, Instr.slice, hbs, run_sizeOf' G, hes, Sem.run_pure]
      have hcr := cut_reads (w := w) (A := A) (c := c) (m := (li.length : Int)) (i := 0) (j := (li.length : Int)) (by rw [← hv]; exact hr) ⟨by omega, by omega, by omega⟩ ⟨by omega, by omega⟩
      have hcut : cut li 0 (li.length : Int) = li := by simp [cut]
      rw [hcut] at hcr
      have hblk : ∀ g, vblk (Value.slice (if ((li.length : Nat) : Int).toNat = (0 : Int).toNat then A else A.map (·.add ((0 : Int).toNat * sz))) (((li.length : Nat) : Int).toNat - (0 : Int).toNat) (((li.length : Nat) : Int).toNat - (0 : Int).toNat)) = some g → vblk v0 = some g := by
        rw [hv]
        intro g hg
        cases A with
        | none => split at hg <;> cases hg
        | some ad =>
          split at hg
          · exact hg
          · simpa [vblk, add_block] using hg
      generalize Value.slice (if ((li.length : Nat) : Int).toNat = (0 : Int).toNat then A else A.map (·.add ((0 : Int).toNat * sz))) (((li.length : Nat) : Int).toNat - (0 : Int).toNat) (((li.length : Nat) : Int).toNat - (0 : Int).toNat) = V at hrun hcr hblk
      have hdis : ∀ x ∈ rem s.hp id, ∀ g, x.2.foot (n x.1) g → vblk v0 ≠ some g := fun x hx g hg hv => by
        have hsym : ∀ (x y : Nat × HE), ((x.2.mut = true ∨ y.2.mut = true) → ∀ g, x.2.foot (n x.1) g → ¬ y.2.foot (n y.1) g) → ((y.2.mut = true ∨ x.2.mut = true) → ∀ g, y.2.foot (n y.1) g → ¬ x.2.foot (n x.1) g) :=
          fun x y h hm g h1 h2 => h hm.symm g h2 h1
        exact pw_mem hsym hs.heap.sep ((rem_sub s.hp id).subset hx) (fnd_mem hf) (fun e => rem_ne hx (by rw [e])) (.inr rfl) g hg hv
      have hs0 : Sat cx n { s with hp := rem s.hp id } a w := env_hp hs (rem_more s id) (hs.heap.rem id)
      have hs1 : Sat cx (upd n s.nx .nilFunc) (AS.add { s with hp := rem s.hp id } (slE V sz li enc z)) a w :=
        env_add hs0 (upd_lt n s.nx _) (hs0.heap.add (Below.refl _ _) rfl ⟨hcr, fun g hg => he0.2.1 g (hblk g hg), fun w1 w2 h hw => h.stab hw⟩ trivial (fun g hg => hs.heap.lt _ (fnd_mem hf) g (hblk g hg)) (fun g hg => .inr fun x hx _ hxg => hdis x hx g hxg (hblk g hg)))
      obtain ⟨s', hs'⟩ := Option.isSome_iff_exists.1 (hp V)
      have hK' := hK V
      rw [hs'] at hK'
      exact wp_value hw hrun (hK' _ _ _ (put_sat hs1 hs' (fun _ => ⟨rfl, trivial⟩) (fun hn => absurd hH hn)))
end
end Go.Proofs.YtamimgmoomcipaaDoor.Eng
namespace Go.Proofs.YtamimgmoomcipaaDoor.Fw
open Go Go.RowKit Go.Proofs.YtamimgmoomcipaaDoor.Eng 
set_option linter.unusedVariables false
set_option linter.unusedSimpArgs false
def wrongQ (b : Book) : Option Nat := (List.range (b.sights.length + 1)).find? fun q => (chooseW b q []).2
theorem wrongQ_none {b : Book} (h : ∀ p, p < b.sights.length + 1 → (chooseW b p []).2 = false) : wrongQ b = none := List.find?_eq_none.2 fun q hq => by rw [h q (List.mem_range.1 hq)]; decide
theorem wrongQ_some {b : Book} {q : Nat} (h : ∀ p, p < q → (chooseW b p []).2 = false) (h1 : q < b.sights.length + 1) (h2 : (chooseW b q []).2 = true) : wrongQ b = some q := by
  unfold wrongQ
  rw [List.find?_eq_some_iff_append]
  refine ⟨h2, List.range q, List.range' (q + 1) (b.sights.length - q), ?_, fun p hp => ?_⟩
  · rw [List.range_eq_range', List.range_eq_range', show b.sights.length + 1 = q + (1 + (b.sights.length - q)) by omega, ← List.range'_append, ← List.range'_append]
    simp
  · rw [h p (List.mem_range.1 hp)]; rfl
theorem choose_top {b : Book} (hv : Valid b) (a0 a1 x c cl : Value) (gx gc q : Nat) (w : World) (hq : q ≤ 5) (hb : BookAt w a0 a1 b) (hx : x = .pointer (some ⟨gx, 0, none⟩)) (hc : c = .pointer (some ⟨gc, 0, none⟩))
    (hxh : w.heap[gx]? = some (.cells #[a0, iv b.hear.lo, iv b.hear.hi, iv b.br, iv b.cr, iv b.sl, a1] 27 (0, 0))) (hcl : cl = .func (.func 75) #[] #[ptrAt x 0, ptrAt c 0]) (hch : w.heap[gc]? = some (.cells #[cl] 96 (0, 0))) :
    Calls Tryd.prog 75 #[.slice none 0 0, iv q, ptrAt x 0, ptrAt c 0] w fun e w' => ∃ v, e = .returned (.tuple #[v, .bool (chooseW b q []).2]) ∧ Below w.heap.size w w' ∧ Reads w' v 1 (chooseW b q []).1 encI 0 ∧ (∀ g, vblk v = some g → w.heap.size ≤ g ∧ g < w'.heap.size) := by
  subst hx hc
  simp only [ptrAt, Nat.add_zero] at *
  subst hcl
  have h5 := choose_calls b hv a0 a1 gx gc q [] (.slice none 0 0) w ⟨by simp, fun x hx => by cases hx⟩ (by simp; omega) hb reads_nil hxh hch
  simp only [List.length_nil, Nat.zero_add] at h5
  exact h5.mono fun e w' ⟨v, h1, h2, h3, h4⟩ => ⟨v, h1, h2, h3, fun g hg => (h4 g hg).resolve_left (fun h => by cases h)⟩
def wrongA (b : Book) : List Int × Int := if checkW b = 0 then (match wrongQ b with | some q => ((chooseW b q []).1, 0) | none => ([], 42)) else ([], checkW b)
theorem wrongA_calls (g0 g1 : Value) (b : Book) (w : World) (r0 : Reads w g0 5 b.ships encShip zShip) (r1 : Reads w g1 4 b.sights encSight zSight)  : Calls Tryd.prog 26 #[.agg #[g0, iv b.hear.lo, iv b.hear.hi, iv b.br, iv b.cr, iv b.sl, g1]] w fun e w' => ∃ v0, e = .returned (.tuple #[v0, iv (wrongA b).2]) ∧ Below w.heap.size w w' ∧ Reads w' v0 1 (wrongA b).1 encI 0 ∧ (∀ g, vblk v0 = some g → w.heap.size ≤ g ∧ g < w'.heap.size) := by
  refine calls_of_WP (cx := cx0 w (vn [g0, g1]) 2) (n := vn [g0, g1]) (vs := [.g [.ref 0, .int .i64 b.hear.lo, .int .i64 b.hear.hi, .int .i64 b.br, .int .i64 b.cr, .int .i64 b.sl, .ref 1]]) (hp := [(0, .sl .ro 65 5 b.ships encShip zShip), (1, .sl .ro 70 4 b.sights encSight zSight)]) (nx := 2) tt_ok Tryd.func26 rfl rfl rfl (by kernel_rfl) (HSat_args (vn_one (by simp [r0.one, r1.one])) (Nat.le_refl _) ⟨⟨⟨fun _ => rfl, by decide, r0⟩, (Nat.le_of_ble_eq_true rfl)⟩, ⟨⟨fun _ => rfl, by decide, r1⟩, (Nat.le_of_ble_eq_true rfl)⟩, trivial⟩) (vsOk (by kernel_rfl)) ?_
  have hl0 := Reads.len r0
  have hl1 := Reads.len r1
  refine WP_seq (WP_region (WPO_all tt_ok (by kernel_rfl) ?_))
  refine WP_seq (WP_seq (WP_region (WPO_run tt_ok 1 (by kernel_rfl) ?_)))
  refine CALL 45 [.g [.ref 0, .int .i64 b.hear.lo, .int .i64 b.hear.hi, .int .i64 b.br, .int .i64 b.cr, .int .i64 b.sl, .ref 1]] (.s (.int .i64 (checkW b))) [] (by kernel_rfl) (goes_of (by kernel_rfl)) (by kernel_rfl) (by kernel_rfl) (fun _ nV w h => Check_calls (nV 0) (nV 1) b w ⟨h.reads (id := 0) (kd := .ro) (e := 65) (by kernel_rfl), h.reads (id := 1) (kd := .ro) (e := 70) (by kernel_rfl)⟩) ?_
  refine WPO_all tt_ok (by kernel_rfl) ?_
  refine WP_seq (WP_region (WPO_all tt_ok (by kernel_rfl) ?_))
  refine WP_cond ((checkW b) != 0) (by kernel_rfl) (fun hc2 => ?_) (fun hc2 => ?_)
  · have hc2' := hc2; try simp only [Bool.and_eq_true, Bool.or_eq_true, Bool.and_eq_false_iff, Bool.or_eq_false_iff, Bool.not_eq_true', Bool.not_eq_false', decide_eq_true_eq, decide_eq_false_iff_not, beq_iff_eq, beq_eq_false_iff_ne, bne_iff_ne, bne_eq_false_iff_eq, ne_eq] at hc2'
    refine WP_seq (WP_region (WPO_all tt_ok (by kernel_rfl) ?_))
    refine WP_ret ?_
    exact ⟨.t [(false, [.v (.slice none 0 0)]), (false, [.int .i64 (checkW b)])], by kernel_rfl, fun nV w' h => ⟨.slice none 0 0, by rw [show wrongA b = ([], checkW b) from by unfold wrongA; rw [if_neg (bne_iff_ne.1 hc2)]]; rfl, h.bel, by rw [show wrongA b = ([], checkW b) from by unfold wrongA; rw [if_neg (bne_iff_ne.1 hc2)]]; exact reads_nil, fun g hg => by cases hg⟩⟩
  have hc2' := hc2; try simp only [Bool.and_eq_true, Bool.or_eq_true, Bool.and_eq_false_iff, Bool.or_eq_false_iff, Bool.not_eq_true', Bool.not_eq_false', decide_eq_true_eq, decide_eq_false_iff_not, beq_iff_eq, beq_eq_false_iff_ne, bne_iff_ne, bne_eq_false_iff_eq, ne_eq] at hc2'
  refine WP_skip ?_
  have hv : Valid b := check_valid.1 (by assumption)
  have hbg := hv.nsights
  have hws : IntKind.i64.wrap ((b.sights.length : Int) + 1) = (b.sights.length : Int) + 1 := wrapI (by omega) (by omega)
  refine WP_seq (WP_region (WPO_all tt_ok (by kernel_rfl) ?_))
  refine WP_seq (WP_region (WPO_all tt_ok (by kernel_rfl) ?_))
  refine WP_seq (WP_seq (WP_region (WPO_all tt_ok (by kernel_rfl) ?_)))
  refine WP_block (WP_loop (σ := Int) (fun zz => ⟨36, [(19, [], .s (.int .i64 zz)), (18, [], .s (.int .i64 (IntKind.i64.wrap ((b.sights.length : Int) + 1)))), (5, [], .s (.p 3 0))], [(4, .clo 75 [] [.s (.p 2 0), .s (.p 3 0)]), (3, .box 96 [.ref 4]), (2, .box 27 [.ref 0, .int .i64 b.hear.lo, .int .i64 b.hear.hi, .int .i64 b.br, .int .i64 b.cr, .int .i64 b.sl, .ref 1]), (0, .sl .ro 65 5 b.ships encShip zShip), (1, .sl .ro 70 4 b.sights encSight zSight)], 5, []⟩) (fun zz => ∃ q : Nat, zz = q ∧ q ≤ b.sights.length + 1 ∧ ∀ p, p < q → (chooseW b p []).2 = false) (fun zz => b.sights.length + 1 - zz.toNat) 0 (⟨0, rfl, by omega, fun p h => by omega⟩) (Le_sel (ts := [19, 18, 5]) (ids := [4, 3, 2, 0, 1]) (nx := 5) (by kernel_rfl)) ?_)
  rintro n hinv
  obtain ⟨q, hn, hq1, hno⟩ := hinv
  subst hn
  refine WP_seq (WP_region (WPO_all tt_ok (by kernel_rfl) ?_))
  refine WP_seq (WP_cond (decide ((q : Int) < (IntKind.i64.wrap ((b.sights.length : Int) + 1)))) (by kernel_rfl) (fun hc4 => ?_) (fun hc4 => ?_))
  · have hc4' := of_decide_eq_true hc4
    rw [hws] at hc4'
    replace hq1 : q < b.sights.length + 1 := by omega
    refine WP_skip ?_
    refine WP_seq (WP_block ?_)
    refine WP_seq (WP_region (WPO_all tt_ok (by kernel_rfl) ?_))
    refine WP_seq (WP_region (WPO_run tt_ok 2 (by kernel_rfl) ?_))
    refine CALLSL 75 [.s (.v (.slice none 0 0)), .s (.int .i64 (q : Int)), .s (.p 2 0), .s (.p 3 0)] (fun sv1 => .t [(false, [.v sv1]), (false, [.bool (chooseW b q []).2])]) 1 (chooseW b q []).1 encI 0 (by decide) (by kernel_rfl) (goes_of (by kernel_rfl)) (fun _ => (by kernel_rfl)) (fun _ => (by kernel_rfl)) (fun _ _ _ => rfl) (fun nV w h => by
      obtain ⟨gx, hx1, _, hx2⟩ := h.ents (2, .box 27 [.ref 0, .int .i64 b.hear.lo, .int .i64 b.hear.hi, .int .i64 b.br, .int .i64 b.cr, .int .i64 b.sl, .ref 1]) (fnd_mem (by kernel_rfl))
      obtain ⟨gc, hc1, _, hc2⟩ := h.ents (3, .box 96 [.ref 4]) (fnd_mem (by kernel_rfl))
      exact choose_top hv (nV 0) (nV 1) (nV 2) (nV 3) (nV 4) gx gc q w (by omega) ⟨h.reads (id := 0) (kd := .ro) (e := 65) (by kernel_rfl), h.reads (id := 1) (kd := .ro) (e := 70) (by kernel_rfl)⟩ hx1 hc1 hx2 (h.ents (4, .clo 75 [] [.s (.p 2 0), .s (.p 3 0)]) (fnd_mem (by kernel_rfl))) hc2) (fun sv1 => ?_)
    refine WPO_all tt_ok (by kernel_rfl) ?_
    refine WP_seq (WP_region (WPO_all tt_ok (by kernel_rfl) ?_))
    refine WP_cond ((chooseW b q []).2) (by kernel_rfl) (fun hc6 => ?_) (fun hc6 => ?_)
    · refine WP_seq (WP_region (WPO_run tt_ok 2 (by kernel_rfl) ?_))
      refine SLEN tt_ok (.s (.v sv1)) [] (chooseW b q []).1.length (by kernel_rfl) (fun _ n w h => by obtain ⟨A, c, hv, _⟩ := (h.ents (5, slE sv1 1 (chooseW b q []).1 encI 0) (fnd_mem (by kernel_rfl))).1; exact ⟨A, c, hv⟩) (by kernel_rfl) ?_
      refine WPO_run tt_ok 1 (by kernel_rfl) ?_
      refine SLEN tt_ok (.s (.v sv1)) [] (chooseW b q []).1.length (by kernel_rfl) (fun _ n w h => by obtain ⟨A, c, hv, _⟩ := (h.ents (5, slE sv1 1 (chooseW b q []).1 encI 0) (fnd_mem (by kernel_rfl))).1; exact ⟨A, c, hv⟩) (by kernel_rfl) ?_
      refine SLVF tt_ok 5 sv1 3 1 (chooseW b q []).1 encI 0 (some 34) (by kernel_rfl) (by kernel_rfl) (fun _ => (by kernel_rfl)) (fun sv2 => ?_)
      refine WPO_all tt_ok (by kernel_rfl) ?_
      refine WP_ret ?_
      exact ⟨.t [(false, [.v sv2]), (false, [.int .i64 0])], by kernel_rfl, fun nV w' h => ⟨sv2, by rw [show wrongA b = ((chooseW b q []).1, 0) from by unfold wrongA; rw [if_pos (bne_eq_false_iff_eq.1 hc2), wrongQ_some hno hq1 hc6]]; rfl, h.bel, by rw [show wrongA b = ((chooseW b q []).1, 0) from by unfold wrongA; rw [if_pos (bne_eq_false_iff_eq.1 hc2), wrongQ_some hno hq1 hc6]]; exact (slE_lt (id := 6) (v := sv2) (sz := 1) (li := (chooseW b q []).1) (enc := encI) (z := 0) h (by kernel_rfl)).1, (slE_lt (id := 6) (v := sv2) (sz := 1) (li := (chooseW b q []).1) (enc := encI) (z := 0) h (by kernel_rfl)).2⟩⟩
    refine WP_skip ?_
    refine WP_region (WPO_all tt_ok (by kernel_rfl) ?_)
    refine ⟨(IntKind.i64.wrap ((q : Int) + 1)), ?_, ?_, Le_sel (ts := [19, 18, 5]) (ids := [4, 3, 2, 0, 1]) (nx := 5) (by kernel_rfl)⟩
    · refine ⟨q + 1, by rw [wrapI (by omega) (by omega)]; rfl, by omega, fun p h1 => ?_⟩
      by_cases e : p = q
      · subst e; exact hc6
      · exact hno p (by omega)
    · rw [wrapI (by omega) (by omega)]
      omega
  have hc4' := of_decide_eq_false hc4
  refine WP_exit ?_
  rw [hws] at hc4'
  obtain rfl : q = b.sights.length + 1 := by omega
  refine WP_seq (WP_region (WPO_all tt_ok (by kernel_rfl) ?_))
  refine WP_ret ?_
  exact ⟨.t [(false, [.v (.slice none 0 0)]), (false, [.int .i64 42])], by kernel_rfl, fun nV w' h => ⟨.slice none 0 0, by rw [show wrongA b = ([], 42) from by unfold wrongA; rw [if_pos (bne_eq_false_iff_eq.1 hc2), wrongQ_none hno]]; rfl, h.bel, by rw [show wrongA b = ([], 42) from by unfold wrongA; rw [if_pos (bne_eq_false_iff_eq.1 hc2), wrongQ_none hno]]; exact reads_nil, fun g hg => by cases hg⟩⟩
end Go.Proofs.YtamimgmoomcipaaDoor.Fw
namespace Go.Proofs.YtamimgmoomcipaaDoor.Rf
open Go Go.RowKit Go.Proofs.YtamimgmoomcipaaDoor.Eng Go.Proofs.YtamimgmoomcipaaDoor.Fw
set_option linter.unusedVariables false
set_option linter.unusedSimpArgs false
def rangeF (low : Int) (high : Int) : Span :=
  (⟨low, high⟩ : Span)
theorem rangeF_calls  (low : Int) (high : Int) (w : World)   : Calls Tryd.prog 41 #[iv low, iv high] w fun e w' => e = .returned (.agg #[iv (rangeF low high).lo, iv (rangeF low high).hi]) ∧ Below w.heap.size w w' := by
  refine calls_of_WP (cx := cx0 w Eng.n0 0) (n := Eng.n0) (vs := [.s (.int .i64 low), .s (.int .i64 high)]) (hp := []) (nx := 0) tt_ok Tryd.func41 rfl rfl rfl (by kernel_rfl) (HSat0 _ _ _ _ _ _ (fun _ => rfl) (Nat.le_refl _)) (vsOk (by kernel_rfl)) ?_
  refine WP_seq (WP_region (WPO_all tt_ok (by kernel_rfl) ?_))
  refine WP_seq (WP_region (WPO_all tt_ok (by kernel_rfl) ?_))
  refine WP_ret ?_
  exact ⟨.g [.int .i64 low, .int .i64 high], by kernel_rfl, fun nV w' h => ⟨by rw [show rangeF low high = (⟨low, high⟩ : Span) from rfl]; rfl, h.bel⟩⟩
def pointF (n : Int) : Span :=
  (rangeF n n)
theorem pointF_calls  (n : Int) (w : World)   : Calls Tryd.prog 38 #[iv n] w fun e w' => e = .returned (.agg #[iv (pointF n).lo, iv (pointF n).hi]) ∧ Below w.heap.size w w' := by
  refine calls_of_WP (cx := cx0 w Eng.n0 0) (n := Eng.n0) (vs := [.s (.int .i64 n)]) (hp := []) (nx := 0) tt_ok Tryd.func38 rfl rfl rfl (by kernel_rfl) (HSat0 _ _ _ _ _ _ (fun _ => rfl) (Nat.le_refl _)) (vsOk (by kernel_rfl)) ?_
  refine WP_seq (WP_region (WPO_all tt_ok (by kernel_rfl) ?_))
  refine WP_seq (WP_region (WPO_run tt_ok 2 (by kernel_rfl) ?_))
  refine CALL 41 [.s (.int .i64 n), .s (.int .i64 n)] (.g [.int .i64 (rangeF n n).lo, .int .i64 (rangeF n n).hi]) [] (by kernel_rfl) (goes_of (by kernel_rfl)) (by kernel_rfl) (by kernel_rfl) (fun _ nV w h => rangeF_calls  n n w  ) ?_
  refine WPO_all tt_ok (by kernel_rfl) ?_
  refine WP_ret ?_
  exact ⟨.g [.int .i64 (rangeF n n).lo, .int .i64 (rangeF n n).hi], by kernel_rfl, fun nV w' h => ⟨by rw [show pointF n = (rangeF n n) from rfl]; rfl, h.bel⟩⟩
def alikeF_c1 (l : List Int) (m : List Int) (k1 : Nat) : Unit → Bool := fun _ => decide ((k1 : Int) < (l.length : Int))
def alikeF_b1 (l : List Int) (m : List Int) (k1 : Nat) : Unit → Bd Unit Bool := fun _ => (bif (l.getD k1 0) != (m.getD k1 0) then .ret false else .go ())
def alikeF (l : List Int) (m : List Int) : Bool :=
  (bif (l.length : Int) != (m.length : Int) then false else (match loopR (alikeF_c1 l m) (alikeF_b1 l m) l.length 0 () with | .brk () => true | .ret r => r))
theorem alikeF_calls (g0 g1 : Value) (l : List Int) (m : List Int) (w : World) (r0 : Reads w g0 1 l encI 0) (r1 : Reads w g1 1 m encI 0)  : Calls Tryd.prog 65 #[g0, g1] w fun e w' => e = .returned (.bool (alikeF l m)) ∧ Below w.heap.size w w' := by
  refine calls_of_WP (cx := cx0 w (vn [g0, g1]) 2) (n := vn [g0, g1]) (vs := [.s (.ref 0), .s (.ref 1)]) (hp := [(0, .sl .ro 3 1 l encI 0), (1, .sl .ro 3 1 m encI 0)]) (nx := 2) tt_ok Tryd.func65 rfl rfl rfl (by kernel_rfl) (HSat_args (vn_one (by simp [r0.one, r1.one])) (Nat.le_refl _) ⟨⟨⟨fun _ => rfl, by decide, r0⟩, (Nat.le_of_ble_eq_true rfl)⟩, ⟨⟨fun _ => rfl, by decide, r1⟩, (Nat.le_of_ble_eq_true rfl)⟩, trivial⟩) (vsOk (by kernel_rfl)) ?_
  have hl0 := Reads.len r0
  have hl1 := Reads.len r1
  refine WP_seq (WP_region (WPO_all tt_ok (by kernel_rfl) ?_))
  refine WP_seq (WP_seq (WP_region (WPO_all tt_ok (by kernel_rfl) ?_)))
  refine WP_cond ((l.length : Int) != (m.length : Int)) (by kernel_rfl) (fun hc2 => ?_) (fun hc2 => ?_)
  · have hc2' := hc2; try simp only [Bool.and_eq_true, Bool.or_eq_true, Bool.and_eq_false_iff, Bool.or_eq_false_iff, Bool.not_eq_true', Bool.not_eq_false', decide_eq_true_eq, decide_eq_false_iff_not, beq_iff_eq, beq_eq_false_iff_ne, bne_iff_ne, bne_eq_false_iff_eq, ne_eq] at hc2'
    refine WP_seq (WP_region (WPO_all tt_ok (by kernel_rfl) ?_))
    refine WP_ret ?_
    exact ⟨.s (.bool false), by kernel_rfl, fun nV w' h => ⟨by rw [show alikeF l m = false from by unfold alikeF; simp only [hc2, cond_true, cond_false]]; rfl, h.bel⟩⟩
  have hc2' := hc2; try simp only [Bool.and_eq_true, Bool.or_eq_true, Bool.and_eq_false_iff, Bool.or_eq_false_iff, Bool.not_eq_true', Bool.not_eq_false', decide_eq_true_eq, decide_eq_false_iff_not, beq_iff_eq, beq_eq_false_iff_ne, bne_iff_ne, bne_eq_false_iff_eq, ne_eq] at hc2'
  refine WP_skip ?_
  refine WP_seq (WP_seq (WP_region (WPO_all tt_ok (by kernel_rfl) ?_)))
  refine WP_loopA (ρ := Bool) (alikeF_c1 l m) (alikeF_b1 l m) l.length () (fun k : Nat => (k : Int)) (fun (ci : Int) (zz : Unit) => ⟨26, [(5, [], .s (.int .i64 ci)), (0, [], .s (.ref 0)), (1, [], .s (.ref 1))], [(0, .sl .ro 3 1 l encI 0), (1, .sl .ro 3 1 m encI 0)], 2, []⟩) (fun zz : Unit => ⟨26, [], [(0, .sl .ro 3 1 l encI 0), (1, .sl .ro 3 1 m encI 0)], 2, []⟩) (fun k zz => True) trivial ⟨0, rfl, Le_sel (ts := [5, 0, 1]) (ids := [0, 1]) (nx := 2) (by kernel_rfl)⟩ ?_ ?_
  · intro k1 zz hn1 hp1 hi1 Q1 hq1 ho1
    refine WP_seq (WP_seq (WP_region (WPO_all tt_ok (by kernel_rfl) ?_)))
    refine WP_cond (decide ((k1 : Int) < (l.length : Int))) (by kernel_rfl) (fun hc3 => ?_) (fun hc3 => ?_)
    rotate_left
    · refine WP_exit ?_
      show Q1 (.exit 0) _
      exact LA_exit hq1 () (loopR_end hi1 hc3) ⟨k1, hn1, hp1⟩ (Le_sel (ts := []) (ids := [0, 1]) (nx := 2) (by kernel_rfl))
    have hc3' := of_decide_eq_true hc3
    have hk1 : k1 < l.length := by omega
    refine WP_skip ?_
    refine WP_seq (WP_block ?_)
    refine WP_seq (WP_draw (by kernel_rfl) (by kernel_rfl) ?_)
    refine WPQ_run tt_ok 2 (by kernel_rfl) ?_
    refine QIX tt_ok (k1 : Int) l.length [] (by kernel_rfl) (fun hG => ⟨by omega, by omega⟩) ?_
    refine WPQ_run tt_ok 3 (by kernel_rfl) ?_
    refine QIX tt_ok (k1 : Int) m.length [] (by kernel_rfl) (fun hG => ⟨by omega, by omega⟩) ?_
    refine WPQ_all tt_ok (by kernel_rfl) ?_
    refine WP_cond ((l.getD k1 0) != (m.getD k1 0)) (by kernel_rfl) (fun hc5 => ?_) (fun hc5 => ?_)
    · have hc5' := hc5; try simp only [Bool.and_eq_true, Bool.or_eq_true, Bool.and_eq_false_iff, Bool.or_eq_false_iff, Bool.not_eq_true', Bool.not_eq_false', decide_eq_true_eq, decide_eq_false_iff_not, beq_iff_eq, beq_eq_false_iff_ne, bne_iff_ne, bne_eq_false_iff_eq, ne_eq] at hc5'
      refine WP_seq (WP_region (WPO_all tt_ok (by kernel_rfl) ?_))
      refine WP_ret ?_
      show Q1 .ret _
      refine LA_ret hq1 ?_
      have he6 := loopR_ret (r := false) hi1 hk1 hc3 (by unfold alikeF_b1; simp only [hc5, cond_true, cond_false])
      exact ⟨.s (.bool false), by kernel_rfl, fun nV w' h => ⟨by rw [show alikeF l m = false from by unfold alikeF; simp only [hc2, he6, cond_true, cond_false]]; rfl, h.bel⟩⟩
    have hc5' := hc5; try simp only [Bool.and_eq_true, Bool.or_eq_true, Bool.and_eq_false_iff, Bool.or_eq_false_iff, Bool.not_eq_true', Bool.not_eq_false', decide_eq_true_eq, decide_eq_false_iff_not, beq_iff_eq, beq_eq_false_iff_ne, bne_iff_ne, bne_eq_false_iff_eq, ne_eq] at hc5'
    refine WP_skip ?_
    refine WP_region (WPO_all tt_ok (by kernel_rfl) ?_)
    show Q1 .normal _
    exact LA_go hq1 (ci := IntKind.i64.wrap ((k1 : Int) + 1)) () hk1 (by show _ = ((k1 + 1 : Nat) : Int); rw [wrapI (by omega) (by omega)]; omega) (loopR_go hi1 hk1 hc3 (by unfold alikeF_b1; simp only [hc5, cond_true, cond_false])) trivial (Le_sel (ts := [5, 0, 1]) (ids := [0, 1]) (nx := 2) (by kernel_rfl))
  intro zz hR1 hP1 s' hl
  refine WP_le hl ?_
  clear hl s'
  refine WP_seq (WP_region (WPO_all tt_ok (by kernel_rfl) ?_))
  refine WP_ret ?_
  exact ⟨.s (.bool true), by kernel_rfl, fun nV w' h => ⟨by rw [show alikeF l m = true from by unfold alikeF; simp only [hc2, hR1, cond_true, cond_false]]; rfl, h.bel⟩⟩
end Go.Proofs.YtamimgmoomcipaaDoor.Rf
namespace Go.Proofs.YtamimgmoomcipaaDoor.Rf
open Go Go.RowKit Go.Proofs.YtamimgmoomcipaaDoor.Eng Go.Proofs.YtamimgmoomcipaaDoor.Fw
set_option linter.unusedVariables false
set_option linter.unusedSimpArgs false
def modF (n : Int) (many : Int) : Int :=
  (bif decide (many ≤ 0) then 0 else (bif decide ((Int.tmod n many) < 0) then IntKind.i64.wrap ((Int.tmod n many) + many) else Int.tmod n many))
theorem modF_calls  (n : Int) (many : Int) (w : World)   : Calls Tryd.prog 24 #[iv n, iv many] w fun e w' => e = .returned (iv (modF n many)) ∧ Below w.heap.size w w' := by
  refine calls_of_WP (cx := cx0 w Eng.n0 0) (n := Eng.n0) (vs := [.s (.int .i64 n), .s (.int .i64 many)]) (hp := []) (nx := 0) tt_ok Tryd.func24 rfl rfl rfl (by kernel_rfl) (HSat0 _ _ _ _ _ _ (fun _ => rfl) (Nat.le_refl _)) (vsOk (by kernel_rfl)) ?_
  refine WP_seq (WP_region (WPO_all tt_ok (by kernel_rfl) ?_))
  refine WP_seq (WP_seq (WP_region (WPO_all tt_ok (by kernel_rfl) ?_)))
  refine WP_cond (decide (many ≤ 0)) (by kernel_rfl) (fun hc2 => ?_) (fun hc2 => ?_)
  · have hc2' := of_decide_eq_true hc2
    refine WP_seq (WP_region (WPO_all tt_ok (by kernel_rfl) ?_))
    refine WP_ret ?_
    exact ⟨.s (.int .i64 0), by kernel_rfl, fun nV w' h => ⟨by rw [show modF n many = 0 from by unfold modF; simp only [hc2, cond_true, cond_false]]; rfl, h.bel⟩⟩
  have hc2' := of_decide_eq_false hc2
  refine WP_skip ?_
  refine WP_seq (WP_region (WPO_run tt_ok 2 (by kernel_rfl) ?_))
  refine BIN .rem 3 (.tmp 8) (.tmp 9) (.s (.int .i64 n)) (.s (.int .i64 many)) (.s (.int .i64 (Int.tmod n many))) [] (by kernel_rfl) (by kernel_rfl) (by kernel_rfl) (fun _ => BinOk_rem (by omega)) ?_
  refine WPO_all tt_ok (by kernel_rfl) ?_
  refine WP_seq (WP_seq (WP_region (WPO_all tt_ok (by kernel_rfl) ?_)))
  refine WP_cond (decide ((Int.tmod n many) < 0)) (by kernel_rfl) (fun hc4 => ?_) (fun hc4 => ?_)
  · have hc4' := of_decide_eq_true hc4
    refine WP_seq (WP_region (WPO_all tt_ok (by kernel_rfl) ?_))
    refine WP_ret ?_
    exact ⟨.s (.int .i64 (IntKind.i64.wrap ((Int.tmod n many) + many))), by kernel_rfl, fun nV w' h => ⟨by rw [show modF n many = (IntKind.i64.wrap ((Int.tmod n many) + many)) from by unfold modF; simp only [hc2, hc4, cond_true, cond_false]]; rfl, h.bel⟩⟩
  have hc4' := of_decide_eq_false hc4
  refine WP_skip ?_
  refine WP_seq (WP_region (WPO_all tt_ok (by kernel_rfl) ?_))
  refine WP_ret ?_
  exact ⟨.s (.int .i64 (Int.tmod n many)), by kernel_rfl, fun nV w' h => ⟨by rw [show modF n many = (Int.tmod n many) from by unfold modF; simp only [hc2, hc4, cond_true, cond_false]]; rfl, h.bel⟩⟩
theorem modF_in (n many : Int) (h : 0 < many) (h2 : many ≤ 9223372036854775807) : 0 ≤ modF n many ∧ modF n many < many := by
  have h3 := Int.tmod_lt_of_pos n h
  have h4 := Int.lt_tmod_of_pos n h
  unfold modF
  rw [show decide (many ≤ 0) = false from decide_eq_false (by omega)]
  simp only [cond_false]
  by_cases h5 : Int.tmod n many < 0
  · rw [decide_eq_true h5, cond_true, wrapI (by omega) (by omega)]; omega
  · rw [decide_eq_false h5, cond_false]; omega
end Go.Proofs.YtamimgmoomcipaaDoor.Rf
namespace Go.Proofs.YtamimgmoomcipaaDoor.Rf
open Go Go.Proofs.YtamimgmoomcipaaDoor.Eng Go.Proofs.YtamimgmoomcipaaDoor.Fw
set_option linter.unusedVariables false
set_option linter.unusedSimpArgs false
theorem mem_coursesF {b : Book} {k : Nat} {but : List Int} (hv : Valid b) (hk : k < b.ships.length) {c : Int × Int} : c ∈ coursesF b k but ↔ ((b.ships.getD k zShip).aw.lo ≤ c.1 ∧ c.1 ≤ (b.ships.getD k zShip).aw.hi ∧ c.1 ≤ b.hear.hi) ∧ ((b.ships.getD k zShip).sp.lo ≤ c.2 ∧ c.2 ≤ (b.ships.getD k zShip).sp.hi) ∧ rightF b k c.1 c.2 but = true := by
  have hsh := hv.ship hk
  constructor
  · intro h
    obtain ⟨i, j, hi, hj, rfl, ho⟩ := mem_preC h
    simp only [okC, Bool.and_eq_true, decide_eq_true_eq] at ho
    unfold nA at hi
    unfold nS at hj
    refine ⟨⟨by simp only; omega, by simp only; omega, ho.1⟩, by simp only; omega, ho.2⟩
  · rintro ⟨h1, h2, h3⟩
    unfold coursesF preC
    simp only [List.mem_flatMap, List.mem_range, rowC, List.mem_filter, List.mem_map]
    refine ⟨(c.1 - (b.ships.getD k zShip).aw.lo).toNat, by unfold nA; omega, ⟨(c.2 - (b.ships.getD k zShip).sp.lo).toNat, by unfold nS; omega, ?_⟩, ?_⟩
    · exact Prod.ext (by simp only; omega) (by simp only; omega)
    · simp only [okC, Bool.and_eq_true, decide_eq_true_eq]; exact ⟨h1.2.2, h3⟩
end Go.Proofs.YtamimgmoomcipaaDoor.Rf
namespace Go.Proofs.YtamimgmoomcipaaDoor.Lw
open Go Go.Proofs.YtamimgmoomcipaaDoor.Eng Go.Proofs.YtamimgmoomcipaaDoor.Fw Go.Proofs.YtamimgmoomcipaaDoor.Rf
set_option linter.unusedVariables false
set_option linter.unusedSimpArgs false
theorem filter_app {α : Type} (l : List Nat) (p : Nat → Bool) (f : Nat → α) : (l.flatMap fun i => bif p i then [f i] else []) = (l.filter p).map f := by
  induction l with
  | nil => rfl
  | cons x r ih => simp only [List.flatMap_cons, List.filter_cons]; cases p x <;> simp [ih]
def Asc (l : List Int) : Prop := l.Pairwise (· < ·)
theorem asc_filter0 (N : Nat) (p : Nat → Bool) : Asc (((List.range N).filter p).map fun i : Nat => (i : Int)) := by
  unfold Asc
  rw [List.pairwise_map]
  exact (List.pairwise_lt_range.filter p).imp fun h => by omega
theorem getD_eq {α : Type} {l : List α} {k : Nat} {z : α} (h : k < l.length) : l.getD k z = l[k] := by
  rw [List.getD_eq_getElem?_getD, List.getElem?_eq_getElem h]; rfl
theorem asc_get {l : List Int} (h : Asc l) {i j : Nat} (hij : i < j) (hj : j < l.length) : l.getD i 0 < l.getD j 0 := by
  rw [getD_eq (by omega), getD_eq hj]
  exact List.pairwise_iff_getElem.1 h i j (by omega) hj hij
theorem asc_le {l : List Int} (h : Asc l) {i j : Nat} (hij : i ≤ j) (hj : j < l.length) : l.getD i 0 ≤ l.getD j 0 := by
  rcases Nat.lt_or_ge i j with h1 | h1
  · have := asc_get h h1 hj; omega
  · obtain rfl : i = j := by omega
    exact Int.le_refl _
theorem asc_first {l : List Int} (h : Asc l) (hl : 0 < l.length) : l.getD 0 0 ∈ l ∧ ∀ y ∈ l, l.getD 0 0 ≤ y := by
  refine ⟨getD_mem hl, fun y hy => ?_⟩
  obtain ⟨i, hi, rfl⟩ := List.mem_iff_getElem.1 hy
  have := asc_le h (Nat.zero_le i) hi
  rwa [getD_eq hi] at this
theorem asc_last {l : List Int} (h : Asc l) (hl : 0 < l.length) : l.getD (l.length - 1) 0 ∈ l ∧ ∀ y ∈ l, y ≤ l.getD (l.length - 1) 0 := by
  refine ⟨getD_mem (by omega), fun y hy => ?_⟩
  obtain ⟨i, hi, rfl⟩ := List.mem_iff_getElem.1 hy
  have := asc_le h (show i ≤ l.length - 1 by omega) (by omega)
  rwa [getD_eq hi] at this
theorem last_wrap {l : List Int} (h : 0 < l.length) (h2 : l.length ≤ 1000000) : (IntKind.i64.wrap ((l.length : Int) - 1)).toNat = l.length - 1 := by
  rw [wrapI (by omega) (by omega)]; omega
def errF (b : Book) (ok : Bool) : Int := if checkW b = 0 then (if ok then (if isTrueF b [] then 0 else 42) else 41) else 40
theorem err_ok {b : Book} {ok : Bool} : errF b ok = 0 ↔ Valid b ∧ ok = true ∧ isTrueF b [] = true := by
  unfold errF
  rw [← check_valid]
  constructor
  · intro h
    split at h
    · split at h
      · split at h
        · exact ⟨‹_›, ‹_›, ‹_›⟩
        · cases h
      · cases h
    · cases h
  · rintro ⟨h1, h2, h3⟩
    rw [if_pos h1, if_pos h2, if_pos h3]
theorem err_cases (b : Book) (ok : Bool) : (errF b ok = 40 ∧ checkW b = 40) ∨ (checkW b = 0 ∧ ok = false ∧ errF b ok = 41) ∨ (checkW b = 0 ∧ ok = true ∧ isTrueF b [] = false ∧ errF b ok = 42) ∨ (checkW b = 0 ∧ ok = true ∧ isTrueF b [] = true ∧ errF b ok = 0) := by
  unfold errF
  rcases check_two b with h | h
  · rw [if_pos h]
    cases ok
    · right; left; exact ⟨h, rfl, rfl⟩
    · cases ht : isTrueF b []
      · right; right; left; exact ⟨h, rfl, rfl, rfl⟩
      · right; right; right; exact ⟨h, rfl, rfl, rfl⟩
  · left; rw [if_neg (by omega)]; exact ⟨rfl, h⟩
theorem ask_shape {α : Type} (b : Book) (ok : Bool) (z : α) (x : α × Int) : (bif (checkW b == 0) && ok then (bif (askT b) != 0 then (z, askT b) else x) else (bif (askN b) != 0 then (z, askN b) else (z, askN b))) = if errF b ok = 0 then x else (z, errF b ok) := by
  rcases err_cases b ok with ⟨h, h1⟩ | ⟨h1, rfl, h⟩ | ⟨h1, rfl, h2, h⟩ | ⟨h1, rfl, h2, h⟩
  · rw [h]; simp [askN, h1]
  · rw [h]; simp [askN, h1]
  · rw [h]; simp [askT, h1, h2]
  · rw [h]; simp [askT, h1, h2]
theorem clearA_eq (b : Book) (m : Int) : clearA b m = if errF b (withinF m 0 60) = 0 then (clearF b [] m, 0) else (0, errF b (withinF m 0 60)) := by
  unfold clearA; exact ask_shape _ _ _ _
def canN (b : Book) (k m : Nat) : Bool := (coursesF b k []).any fun c => nearF b k c.1 c.2 m
theorem hit_one (f : Nat → Bool) (m : Nat) : hitF f m 1 = f m := by simp [hitF, List.range_succ]
theorem some_one (b : Book) (k m : Nat) : someF b [] k m 1 = canN b k m := by unfold someF canN; simp only [hit_one]
theorem courses_ne {b : Book} (h : isTrueF b [] = true) {k : Nat} (hk : k < b.ships.length) : ∃ c, c ∈ coursesF b k [] := by
  have := List.all_eq_true.1 h k (List.mem_range.2 hk)
  exact List.exists_mem_of_ne_nil _ (of_decide_eq_true this)
theorem each_some {b : Book} (h : isTrueF b [] = true) {k : Nat} (hk : k < b.ships.length) {f n : Nat} (he : eachF b [] k f n = true) : someF b [] k f n = true := by
  obtain ⟨c, hc⟩ := courses_ne h hk
  exact List.any_eq_true.2 ⟨c, hc, List.all_eq_true.1 he c hc⟩
theorem near02_eq {b : Book} (h : isTrueF b [] = true) {k : Nat} (hk : k < b.ships.length) (f n : Nat) : near02 b [] k f n = if eachF b [] k f n then 2 else if someF b [] k f n then 1 else 0 := by
  unfold near02 near01
  cases he : eachF b [] k f n
  · cases someF b [] k f n <;> rfl
  · rw [each_some h hk he]; rfl
theorem clearF_eq {b : Book} (hv : Valid b) (h : isTrueF b [] = true) {m : Int} : clearF b [] m = if (List.range b.ships.length).all (fun k => !someF b [] k m.toNat (b.cr + b.sl).toNat) then 2 else if (List.range b.ships.length).all (fun k => !eachF b [] k m.toNat (b.cr + b.sl).toNat) then 1 else 0 := by
  unfold clearF
  have hn : ∀ k, k < b.ships.length → 0 ≤ near02 b [] k m.toNat (b.cr + b.sl).toNat ∧ near02 b [] k m.toNat (b.cr + b.sl).toNat ≤ 2 := fun k hk => by
    rw [near02_eq h hk]; split <;> (try split) <;> omega
  have hl : ∀ x y : Int, leastF x [y] = min x y := fun x y => by
    unfold leastF
    simp only [loopR, leastF_c1, leastF_b1, List.length_cons, List.length_nil]
    simp [mn]
    omega
  rw [loopR_foldl (fun k v => leastF v ([IntKind.i64.wrap (2 - (near02 b ([]) (k : Int).toNat m.toNat (b.cr + b.sl).toNat))])) (fun k v hk => by simp only [clearF_c1]; rw [decide_eq_true]; omega) (fun k v hk => by simp only [clearF_b1])]
  simp only
  have key : ∀ n, n ≤ b.ships.length → (List.range n).foldl (fun (v : Int) (k : Nat) => leastF v ([IntKind.i64.wrap (2 - (near02 b ([]) (k : Int).toNat m.toNat (b.cr + b.sl).toNat))])) (2 : Int) = if (List.range n).all (fun k => !someF b [] k m.toNat (b.cr + b.sl).toNat) then 2 else if (List.range n).all (fun k => !eachF b [] k m.toNat (b.cr + b.sl).toNat) then 1 else 0 := by
    intro n
    induction n with
    | zero => intro _; simp
    | succ n ih =>
      intro hn2
      have h1 := hn n (by omega)
      rw [List.range_succ, List.foldl_append, ih (by omega)]
      simp only [List.foldl_cons, List.foldl_nil, List.all_append, List.all_cons, List.all_nil, Bool.and_true, Int.toNat_natCast, hl]
      rw [wrapI (by omega) (by omega), near02_eq h (show n < b.ships.length by omega)]
      have hes := each_some h (show n < b.ships.length by omega) (f := m.toNat) (n := (b.cr + b.sl).toNat)
      have hAB : (List.range n).all (fun k => !someF b [] k m.toNat (b.cr + b.sl).toNat) = true → (List.range n).all (fun k => !eachF b [] k m.toNat (b.cr + b.sl).toNat) = true := fun hA => List.all_eq_true.2 fun k hk => by
        have h2 := List.all_eq_true.1 hA k hk
        cases hE : eachF b [] k m.toNat (b.cr + b.sl).toNat
        · rfl
        · rw [each_some h (by have := List.mem_range.1 hk; omega) hE] at h2; cases h2
      generalize (List.range n).all (fun k => !someF b [] k m.toNat (b.cr + b.sl).toNat) = A at hAB ⊢
      generalize (List.range n).all (fun k => !eachF b [] k m.toNat (b.cr + b.sl).toNat) = B at hAB ⊢
      generalize eachF b [] n m.toNat (b.cr + b.sl).toNat = E at hes ⊢
      generalize someF b [] n m.toNat (b.cr + b.sl).toNat = S at hes ⊢
      clear ih hl hn h1
      revert hAB hes
      cases A <;> cases B <;> cases E <;> cases S <;> decide
  exact key _ (Nat.le_refl _)
def whenL (b : Book) (k : Nat) : List Int := ((List.range 201).filter fun m : Nat => canN b k m).map fun m : Nat => (m : Int)
theorem asc_whenL (b : Book) (k : Nat) : Asc (whenL b k) := asc_filter0 _ _
theorem mem_whenL {b : Book} {k : Nat} {x : Int} : x ∈ whenL b k ↔ (0 ≤ x ∧ x ≤ 200) ∧ canN b k x.toNat = true := by
  unfold whenL
  simp only [List.mem_map, List.mem_filter, List.mem_range]
  constructor
  · rintro ⟨m, ⟨h1, h2⟩, rfl⟩; exact ⟨by omega, by rw [Int.toNat_natCast]; exact h2⟩
  · rintro ⟨h1, h2⟩; exact ⟨x.toNat, ⟨by omega, h2⟩, by omega⟩
theorem whenL_len (b : Book) (k : Nat) : (whenL b k).length ≤ 201 := by
  unfold whenL
  rw [List.length_map]
  exact Nat.le_trans (List.length_filter_le _ _) (by rw [List.length_range]; exact Nat.le_refl _)
theorem whenA_eq (b : Book) (k : Int) : whenA b k = if errF b (withinF k 0 (b.ships.length - 1)) = 0 then (if whenL b k.toNat = [] then (zSpan, 4) else (⟨(whenL b k.toNat).getD 0 0, (whenL b k.toNat).getD ((whenL b k.toNat).length - 1) 0⟩, 0)) else (zSpan, errF b (withinF k 0 (b.ships.length - 1))) := by
  unfold whenA
  rw [show (⟨0, 0⟩ : Span) = zSpan from rfl, ask_shape]
  congr 1
  rw [loopR_app (N := 201) (c := whenA_c1 b k) (b := whenA_b1 b k) (fun m : Nat => bif canN b k.toNat m then [(m : Int)] else []) (fun q v hk => decide_eq_true (show (q : Int) < 201 from by omega)) (fun q v hk => by
    simp only [whenA_b1, Int.toNat_natCast, show (1 : Int).toNat = 1 from rfl, some_one]; cases canN b k.toNat q <;> simp)]
  simp only [List.nil_append, filter_app]
  have e : (((List.range 201).filter fun m : Nat => canN b k.toNat m).map fun m : Nat => (m : Int)) = whenL b k.toNat := rfl
  rw [e]
  have hlen := whenL_len b k.toNat
  cases h : whenL b k.toNat with
  | nil => rfl
  | cons x r =>
    rw [h] at hlen
    rw [if_neg (by simp), last_wrap (by simp) (by omega)]
    have : ((x :: r).length : Int) ≠ 0 := by simp only [List.length_cons]; omega
    rw [show (((x :: r).length : Int) == 0) = false from beq_eq_false_iff_ne.2 this]; rfl
end Go.Proofs.YtamimgmoomcipaaDoor.Lw
namespace Go.Proofs.YtamimgmoomcipaaDoor.Lw
open Go Go.Proofs.YtamimgmoomcipaaDoor.Eng Go.Proofs.YtamimgmoomcipaaDoor.Fw Go.Proofs.YtamimgmoomcipaaDoor.Rf
set_option linter.unusedVariables false
set_option linter.unusedSimpArgs false
theorem true_iff {b : Book} : isTrueF b [] = true ↔ ∀ k, k < b.ships.length → ∃ c, c ∈ coursesF b k [] := by
  constructor
  · exact fun h k hk => courses_ne h hk
  · intro h
    refine List.all_eq_true.2 fun k hk => decide_eq_true ?_
    obtain ⟨c, hc⟩ := h k (List.mem_range.1 hk)
    exact List.ne_nil_of_mem hc
end Go.Proofs.YtamimgmoomcipaaDoor.Lw
namespace Go.Proofs.YtamimgmoomcipaaDoor.Eng
open Go Go.RowKit Go.ChangeShapes Go.WideShapes
set_option linter.unusedVariables false
set_option linter.unusedSimpArgs false
def i64B (n : Int) : Prop := -9223372036854775808 ≤ n ∧ n ≤ 9223372036854775807
theorem i64_wf {n : Int} (h : (Lit.int .i64 n).wf = true) : i64B n := by
  simp only [Lit.wf, Bool.and_eq_true, decide_eq_true_eq] at h
  exact ⟨h.1, h.2⟩
def Wb {H : Type} (P : Program) (t : TypeId) (d : DataW H) : Prop := ∀ n ∈ d.weights P t, n ≤ reachBytes
def Opn (P : Program) (w : World) (t : TypeId) (φ : List Value → Prop) : Prop :=
  ∀ (H : Type) (enc : TypeId × Value → H) (sp : Nat → Bool) (held : Bool) (fuel : Nat) (cs : List Value) (x : DataW H × List MemPlace), DataW.trod enc P w 0 sp held fuel t cs = some x → Wb P t x.1 → φ cs
section
variable {P : Program} {w : World} {t e : TypeId}
theorem Opn.mono {φ ψ : List Value → Prop} (h : Opn P w t φ) (k : ∀ cs, φ cs → ψ cs) : Opn P w t ψ := fun H enc sp held fuel cs x h1 h2 => k cs (h H enc sp held fuel cs x h1 h2)
theorem Opn_int (ht : P.underlying t = some (.int .i64)) : Opn P w t (fun cs => ∃ n : Int, cs = [.int .i64 n] ∧ i64B n) := fun H enc sp held fuel cs x h1 h2 => by
  obtain ⟨n, rfl, _, hw⟩ := DataW.trod_int ht h1
  exact ⟨n, rfl, i64_wf hw⟩
theorem weightsAll_mem {H : Type} : ∀ (l : List (DataW H)) (d : DataW H), d ∈ l → ∀ n ∈ d.weights P e, n ∈ DataW.weightsAll P e l
  | x :: r, d, hd, n, hn => by
    simp only [DataW.weightsAll, List.mem_append]
    rcases List.mem_cons.1 hd with rfl | hd
    · exact .inl hn
    · exact .inr (weightsAll_mem r d hd n hn)
theorem mapM_get {α β : Type _} {f : α → Option β} : ∀ {l : List α} {r : List β}, l.mapM f = some r → ∀ (i : Nat) (a : α), l[i]? = some a → ∃ b, f a = some b ∧ r[i]? = some b
  | [], r, h, i, a, hi => by cases hi
  | x :: l, r, h, i, a, hi => by
    rw [List.mapM_cons] at h
    obtain ⟨b, hb, h⟩ := Option.bind_eq_some_iff.1 h
    obtain ⟨r', hr, h⟩ := Option.bind_eq_some_iff.1 h
    cases h
    cases i with
    | zero => cases hi; exact ⟨b, hb, rfl⟩
    | succ i => exact mapM_get hr i a hi
theorem Opn_array {m : Nat} (ht : P.underlying t = some (.array m e)) (φ : List Value → Prop) (hf : Opn P w e φ) :
    Opn P w t (fun cs => cs.length = P.cellsOf t ∧ ∀ i, i < m → φ ((cs.drop (i * P.cellsOf e)).take (P.cellsOf e))) := fun H enc sp held fuel cs x h1 h2 => by
  cases fuel with
  | zero => cases h1
  | succ n =>
    simp only [DataW.trod, ht] at h1
    split at h1
    · rename_i hl
      obtain ⟨xs, hxs, rfl⟩ := Option.map_eq_some_iff.1 h1
      refine ⟨hl, fun i hi => ?_⟩
      obtain ⟨b, hb, hxi⟩ := mapM_get hxs i i (by rw [List.getElem?_range hi])
      refine hf H enc sp held n _ _ hb fun k hk => h2 k ?_
      simp only [DataW.weights, ht]
      exact weightsAll_mem _ b.1 (List.mem_map.2 ⟨b, List.mem_of_getElem? hxi, rfl⟩) k hk
    · cases h1
theorem tl (o n : Nat) (cs : List Value) : cs.drop o = (cs.drop o).take n ++ cs.drop (o + n) := by rw [← List.drop_drop, List.take_append_drop]
theorem tlz {o : Nat} {cs : List Value} (h : cs.length = o) : cs.drop o = [] := by rw [List.drop_eq_nil_of_le (by omega)]
theorem arg_arr {H : Type} {base : Nat} {v : Value} {d : DataW H} {enc : TypeId × Value → H} {ps : List MemPlace} {sp : Nat → Bool} {held : Bool} {φ : List Value → Prop} {m : Nat} (ht : P.underlying t = some (.array m e)) (hval : Value.okWide P w .any base t v) (h : DataW.Trod enc P w 0 sp held t v d ps) (hb : Wb P t d) (ho : Opn P w t φ) : ∃ cs, v = .agg cs ∧ φ cs.toList := by
  simp only [Value.okWide, ht] at hval
  obtain ⟨cs, rfl, _⟩ := hval
  obtain ⟨fuel, hf⟩ := h
  exact ⟨cs, rfl, ho H enc sp held fuel _ _ hf hb⟩
theorem Bd_each {H : Type} {ts : List TypeId} {ds : List (DataW H)} (h : (DataW.weightsEach P ts ds).all (· ≤ reachBytes) = true) {j : Nat} {d : DataW H} (ht : ts[j]? = some t) (hd : ds[j]? = some d) : Wb P t d := fun n hn => by
  have := List.all_eq_true.1 h n (DataW.weights_mem_each ht hd n hn)
  simpa using this
theorem trodAll_stays {H : Type} {enc : TypeId × Value → H} (hl : laidOutB P = true) {W W' : World} {sp' : Nat → Bool} : ∀ {ts : List TypeId} {vs : List Value} {ds : List (DataW H)} {ps : List MemPlace}, (∀ u ∈ ts, P.readableRec u = true ∧ u < P.types.size) →
    DataW.TrodAll enc P W 0 (fun _ => true) true ts vs ds ps → (∀ p ∈ ps, W.sameAt W' p) → (∀ p ∈ ps, sp' p.block = true) → DataW.TrodAll enc P W' 0 sp' true ts vs ds ps
  | [], vs, ds, ps, _, h, _, _ => by obtain ⟨rfl, rfl, rfl⟩ := trodAll_nil h; exact rfl
  | u :: ts, vs, ds, ps, hr, h, h1, h2 => by
    obtain ⟨v, vs', d, ds', p, q, rfl, rfl, rfl, ha, hb⟩ := trodAll_cons h
    have hu := hr u List.mem_cons_self
    exact ⟨p, q, WideElems.Trod_stays hl hu.1 hu.2 ha (fun x hx => h1 x (List.mem_append.2 (.inl hx))) (fun x hx => h2 x (List.mem_append.2 (.inl hx))),
      trodAll_stays hl (fun x hx => hr x (List.mem_cons_of_mem _ hx)) hb (fun x hx => h1 x (List.mem_append.2 (.inr hx))) (fun x hx => h2 x (List.mem_append.2 (.inr hx))), rfl⟩
theorem law_post {H : Type} {enc : TypeId × Value → H} {f : Func} {s : ChangeSpec} {W W' : World} {args : Array Value} {ds gs : List (DataW H)} {before : List MemPlace} {tb : TypeId} (hl : laidOutB P = true) (hts : ∀ u ∈ f.params.toList, P.readableRec u = true ∧ u < P.types.size)
    (hW : DataW.Whole enc P f.params.toList s.vars false W args.toList ds gs before) (hv : s.vars = []) (hr : f.resultTypes = #[tb]) (htb : P.underlying tb = some .bool)
    (hs1 : (s.fn H (ds ++ gs)).results = [.lit (.bool true)]) (hs2 : (s.fn H (ds ++ gs)).args = ds) (hs3 : (s.fn H (ds ++ gs)).vars = []) (hb : Below W.heap.size W W') :
    s.post enc P f false true false false W args (.bool true) W' := by
  have hlt : ∀ p ∈ before, p.block < W.heap.size := hW.lt
  have hW2 := hW
  obtain ⟨pa, pv, h1, h2, rfl, hz, hn⟩ := hW
  have hpv : pv = [] := by rw [hv] at h2; exact (trodVars_none h2).2
  subst hpv
  have hres : ∀ (b : Nat) (sp : Nat → Bool) (hd : Bool), DataW.TrodAll enc P W' b sp hd f.resultTypes.toList ((Value.bool true).resultList f.resultTypes.size) (s.fn H (ds ++ gs)).results [] := fun b sp hd => by
    rw [hr, hs1]
    exact trodAll_cons_mk (shut_bool htb true) trodAll_mk0
  have hargs : ∀ sp : Nat → Bool, (∀ p ∈ pa ++ [], sp p.block = true) → DataW.TrodAll enc P W' 0 sp true f.params.toList args.toList (s.fn H (ds ++ gs)).args pa := fun sp hsp => by
    rw [hs2]
    exact trodAll_stays hl hts h1 (fun p hp => hb.same (hlt p (by simpa using hp))) (fun p hp => hsp p (by simpa using hp))
  have hvars : ∀ sp : Nat → Bool, DataW.TrodVars enc P W' sp s.vars (s.fn H (ds ++ gs)).vars [] := fun sp => by
    rw [hv, hs3]; exact rfl
  have hold : ∀ p ∈ pa ++ [], (fun b => decide (b < W.heap.size)) p.block = true := fun p hp => by simpa using hlt p hp
  refine ⟨ds, gs, _, [], pa, [], hW2, hres _ _ _, hargs _ hold, hvars _, World.keptBut_mono (fun p hp => hp) (hb.frame _), fun _ => ?_⟩
  refine ⟨ok_one hr rfl (okWide_bool_mk htb true), _, _, ([] ++ pa) ++ [], ⟨[] ++ pa, [], trodAll_append (hargs _ (fun _ _ => rfl)) (hres _ _ _), hvars _, rfl, ?_, ?_⟩, ?_⟩
  · intro b off hp
    have hp' : MemPlace.cell b off ∈ pa ++ [] := by simpa using hp
    have := hlt _ hp'
    rw [hb.frozen (p := ⟨b, off, none⟩) this]
    exact hz b off hp'
  · intro ha; cases ha
  · intro p hp _
    simpa using hp
end
end Go.Proofs.YtamimgmoomcipaaDoor.Eng
namespace Go.Proofs.YtamimgmoomcipaaDoor.Eng
open Go Go.RowKit
set_option linter.unusedVariables false
set_option linter.unusedSimpArgs false
structure RO where (e sz : Nat) (α : Type) (li : List α) (enc : α → List Value) (z : α)
def RO.he (x : RO) : HE := .sl .ro x.e x.sz x.li x.enc x.z
def addRs (s : AS) : List RO → AS
  | [] => s
  | x :: r => addRs (s.add x.he) r
def updRs (n : Vn) (nx : Nat) : List Value → Vn
  | [] => n
  | v :: r => updRs (upd n nx v) (nx + 1) r
def fineRs (B : Nat) (w' : World) : List RO → List Value → Prop
  | [], [] => True
  | x :: r, v :: q => (Reads w' v x.sz x.li x.enc x.z ∧ ∀ g, vblk v = some g → 0 < x.li.length → B ≤ g) ∧ fineRs B w' r q
  | _, _ => False
def encRs : List RO → Prop
  | [] => True
  | x :: r => (0 < x.sz ∧ ∀ y, (x.enc y).length = x.sz) ∧ encRs r
theorem updRs_lt : ∀ (vs : List Value) (n : Vn) (nx id : Nat), id < nx → updRs n nx vs id = n id
  | [], n, nx, id, h => rfl
  | v :: r, n, nx, id, h => by
    simp only [updRs]
    rw [updRs_lt r _ _ _ (Nat.lt_succ_of_lt h), upd_lt n nx v id h]
section
variable {P : Program} {tt : TT} {cx : Cx} {s s' : AS} {Q : Exit → AS → Prop} {ops : Array Oper} {l : List Oper}
theorem reads_lt {w : World} {v : Value} {sz : Nat} {α : Type} {li : List α} {enc : α → List Value} {z : α} (h : Reads w v sz li enc z) (hp : 0 < li.length) (hs : 0 < sz) : ∀ g, vblk v = some g → g < w.heap.size := fun g hg => by
  obtain ⟨A, c, rfl, _, _, hr⟩ := h
  obtain ⟨ad, rfl, hc⟩ := hr hp
  have := hc 0 hp 0 hs
  cases hg
  have h2 := World.block_lt_of_cell? w _ this
  simpa [add_block] using h2
theorem HSat.addRs {n : Vn} {w w' : World} (hh0 : HSat cx n s w) (hb : Below w.heap.size w w') : ∀ (rs : List RO) (vs : List Value), encRs rs → fineRs w.heap.size w' rs vs → HSat cx (updRs n s.nx vs) (addRs s rs) w' := by
  have key : ∀ (rs : List RO) (vs : List Value) (n' : Vn) (s1 : AS), HSat cx n' s1 w' → (∀ x ∈ s1.hp, x.2.mut = true → ∀ g, x.2.foot (n' x.1) g → g < w.heap.size) → encRs rs → fineRs w.heap.size w' rs vs → HSat cx (updRs n' s1.nx vs) (Eng.addRs s1 rs) w' := by
    intro rs
    induction rs with
    | nil =>
      intro vs n' s1 h1 h2 _ h3
      cases vs with
      | nil => exact h1
      | cons v r => exact h3.elim
    | cons x r ih =>
      intro vs n' s1 h1 h2 he h3
      cases vs with
      | nil => exact h3.elim
      | cons v q =>
        obtain ⟨⟨hr, hf⟩, h4⟩ := h3
        have hadd : HSat cx (upd n' s1.nx v) (s1.add x.he) w' := h1.add (Below.refl _ _) (by obtain ⟨A, c, rfl, _⟩ := hr; rfl) ⟨he.1.2, hr⟩ trivial (fun g hg => reads_lt hr hg.2 he.1.1 g hg.1) (fun g hg => .inr fun y hy hm hyg => by
          have hm' : y.2.mut = true := hm.elim (fun h => by cases h) (fun h => h)
          have := h2 y hy hm' g hyg
          have := hf g hg.1 hg.2
          omega)
        refine ih q _ _ hadd (fun y hy hm g hg => ?_) he.2 h4
        rcases List.mem_cons.1 hy with rfl | hy
        · cases hm
        · have : upd n' s1.nx v y.1 = n' y.1 := upd_lt n' s1.nx v _ (h1.ids y hy)
          rw [this] at hg
          exact h2 y hy hm g hg
  exact fun rs vs he hf => key rs vs n s (hh0.below hb) (fun x hx _ g hg => hh0.lt x hx g hg) he hf
theorem addRs_more : ∀ (rs : List RO) (s : AS), More s (addRs s rs)
  | [], s => ⟨Nat.le_refl _, fun id _ e he => ⟨e, he, Nat.le_refl _⟩⟩
  | x :: r, s => More.trans (More.add s _) (addRs_more r _)
theorem addRs_env : ∀ (rs : List RO) (s : AS), (addRs s rs).env = s.env ∧ (addRs s rs).nt = s.nt ∧ (addRs s rs).df = s.df
  | [], s => ⟨rfl, rfl, rfl⟩
  | x :: r, s => addRs_env r (s.add x.he)
theorem CALLRS (k : FuncId) (vs : List AV) (r : AV) (rs : List RO) (nx : Nat) (hnx : s.nx = nx) (h : (callA ops s l).map (fun x => (x.1, x.2.1)) = some (k, vs)) (hgo : goes P k)
    (hp : (callPN ops s l (addRs s rs) r).isSome = true) (hr : okB (addRs s rs) r = true) (henc : encRs rs)
    (hcall : ∀ n w, HSat cx n s w → Calls P k (vs.map (AV.c n)).toArray w fun e' w' => ∃ us, e' = .returned (r.c (updRs n nx us)) ∧ Below w.heap.size w w' ∧ fineRs w.heap.size w' rs us)
    (hK : WPO P cx ops l.tail ((callPN ops s l (addRs s rs) r).getD s) Q) : WPO P cx ops l s Q := by
  subst hnx
  exact CALLN k vs (addRs s rs) r h hgo hp hr (addRs_more rs s) (addRs_env rs s) (fun n w hh => (hcall n w hh).mono fun e' w' ⟨us, h1, h2, h3⟩ => ⟨updRs n s.nx us, fun id hid => updRs_lt us n s.nx id hid, h1, hh.addRs h2 rs us henc h3⟩) hK
end
end Go.Proofs.YtamimgmoomcipaaDoor.Eng
namespace Go.Proofs.YtamimgmoomcipaaDoor.Eng
open Go Go.RowKit
set_option linter.unusedVariables false
set_option linter.unusedSimpArgs false
abbrev slF (v : Value) (sz : Nat) {α : Type} (li : List α) (enc : α → List Value) (z : α) : HE := .jf (fun w => Reads w v sz li enc z) (fun g => vblk v = some g ∧ 0 < li.length)
theorem Reads.stab0 {w1 w2 : World} {v : Value} {sz : Nat} {α : Type} {li : List α} {enc : α → List Value} {z : α} (h : Reads w1 v sz li enc z) (hw : ∀ g, vblk v = some g ∧ 0 < li.length → w2.heap[g]? = w1.heap[g]?) : Reads w2 v sz li enc z := by
  by_cases hp : 0 < li.length
  · exact h.stab fun g hg => hw g ⟨hg, hp⟩
  · obtain ⟨A, c, rfl, h2, h3, _⟩ := h
    exact ⟨A, c, rfl, h2, h3, fun h => absurd h hp⟩
def addFs (s : AS) : List RO → List Value → AS
  | x :: r, v :: q => addFs (s.add (slF v x.sz x.li x.enc x.z)) r q
  | _, _ => s
def nilF (n : Vn) (nx : Nat) : List RO → Vn
  | [] => n
  | _ :: r => nilF (upd n nx .nilFunc) (nx + 1) r
section
variable {P : Program} {tt : TT} {cx : Cx} {s s' : AS} {Q : Exit → AS → Prop} {ops : Array Oper} {l : List Oper}
def apartF (rs : List RO) (vs : List Value) : Prop := (rs.zip vs).Pairwise fun x y => ∀ g, vblk x.2 = some g → 0 < x.1.li.length → vblk y.2 = some g → 0 < y.1.li.length → False
theorem HSat.addFs {n : Vn} {w w' : World} (hh0 : HSat cx n s w) (hb : Below w.heap.size w w') (rs : List RO) (vs : List Value) (he : encRs rs) (hf : fineRs w.heap.size w' rs vs) (hap : apartF rs vs) : HSat cx (nilF n s.nx rs) (addFs s rs vs) w' := by
  have key : ∀ (rs : List RO) (vs : List Value) (n' : Vn) (s1 : AS), HSat cx n' s1 w' → (∀ x ∈ s1.hp, ∀ g, x.2.foot (n' x.1) g → g < w.heap.size ∨ ∀ y ∈ rs.zip vs, ¬ (vblk y.2 = some g ∧ 0 < y.1.li.length)) → encRs rs → fineRs w.heap.size w' rs vs → apartF rs vs → HSat cx (nilF n' s1.nx rs) (Eng.addFs s1 rs vs) w' := by
    intro rs
    induction rs with
    | nil =>
      intro vs n' s1 h1 h2 _ h3 _
      cases vs with
      | nil => exact h1
      | cons v r => exact h3.elim
    | cons x r ih =>
      intro vs n' s1 h1 h2 he h3 hap
      cases vs with
      | nil => exact h3.elim
      | cons v q =>
        obtain ⟨⟨hr, hf⟩, h4⟩ := h3
        obtain ⟨ha1, ha2⟩ := List.pairwise_cons.1 hap
        have hadd : HSat cx (upd n' s1.nx .nilFunc) (s1.add (slF v x.sz x.li x.enc x.z)) w' := h1.add (Below.refl _ _) rfl ⟨hr, fun g hg => hh0.fr.news g (Nat.le_trans hh0.fr.size (hf g hg.1 hg.2)), fun w1 w2 h hw => h.stab0 hw⟩ trivial (fun g hg => reads_lt hr hg.2 he.1.1 g hg.1) (fun g hg => .inr fun y hy _ hyg => by
          have h5 := hf g hg.1 hg.2
          rcases h2 y hy g hyg with h6 | h6
          · omega
          · exact h6 (x, v) List.mem_cons_self hg)
        refine ih q _ _ hadd (fun y hy g hg => ?_) he.2 h4 ha2
        rcases List.mem_cons.1 hy with rfl | hy
        · right
          intro z hz hzg
          have hg' : vblk v = some g ∧ 0 < x.li.length := hg
          exact ha1 z hz g hg'.1 hg'.2 hzg.1 hzg.2
        · have : upd n' s1.nx .nilFunc y.1 = n' y.1 := upd_lt n' s1.nx _ _ (h1.ids y hy)
          rw [this] at hg
          rcases h2 y hy g hg with h6 | h6
          · exact .inl h6
          · exact .inr fun z hz => h6 z (List.mem_cons_of_mem _ hz)
  exact key rs vs n s (hh0.below hb) (fun x hx g hg => .inl (hh0.lt x hx g hg)) he hf hap
def apart1 (x : RO) (v : Value) : List RO → List Value → Prop
  | y :: r, u :: q => (∀ g, vblk v = some g → 0 < x.li.length → vblk u = some g → 0 < y.li.length → False) ∧ apart1 x v r q
  | _, _ => True
def apartL : List RO → List Value → Prop
  | x :: r, v :: q => apart1 x v r q ∧ apartL r q
  | _, _ => True
theorem own_lt {n0 n : Vn} {w0 w : World} {m : Nat} (h : HSat (cx0 w0 n0 m) n s w) {id : Nat} {e : TypeId} {sz : Nat} {α : Type} {li : List α} {enc : α → List Value} {z : α} (hf : fnd s.hp id = some (.sl .own e sz li enc z)) : Reads w (n id) sz li enc z ∧ ∀ g, vblk (n id) = some g → 0 < li.length → w0.heap.size ≤ g :=
  ⟨h.reads hf, fun g hg _ => (h.ents _ (fnd_mem hf)).2.1 g hg⟩
theorem own_apart {n : Vn} {w : World} (h : HSat cx n s w) {i j : Nat} {x y : HE} (hi : fnd s.hp i = some x) (hj : fnd s.hp j = some y) (hij : i ≠ j) (hm : x.mut = true) : ∀ g, x.foot (n i) g → ¬ y.foot (n j) g := fun g h1 h2 => by
  have hsym : ∀ (x y : Nat × HE), ((x.2.mut = true ∨ y.2.mut = true) → ∀ g, x.2.foot (n x.1) g → ¬ y.2.foot (n y.1) g) → ((y.2.mut = true ∨ x.2.mut = true) → ∀ g, y.2.foot (n y.1) g → ¬ x.2.foot (n x.1) g) :=
    fun x y h hm g h1 h2 => h hm.symm g h2 h1
  exact pw_mem hsym h.sep (fnd_mem hi) (fnd_mem hj) (fun e => hij (congrArg Prod.fst e)) (.inl hm) g h1 h2
end
end Go.Proofs.YtamimgmoomcipaaDoor.Eng
namespace Go.Proofs.YtamimgmoomcipaaDoor.Eng
open Go Go.RowKit
set_option linter.unusedVariables false
set_option linter.unusedSimpArgs false
theorem weak_fresh {p : Value → Prop} {w w' : World} {sz : Nat} {α : Type} {li : List α} {enc : α → List Value} {z : α} (h : ∃ v, p v ∧ Below w.heap.size w w' ∧ Reads w' v sz li enc z ∧ (∀ g, vblk v = some g → w.heap.size ≤ g ∧ g < w'.heap.size)) :
    ∃ v, p v ∧ Below w.heap.size w w' ∧ Reads w' v sz li enc z ∧ (∀ g, vblk v = some g → 0 < li.length → w.heap.size ≤ g) := by
  obtain ⟨v, h1, h2, h3, h4⟩ := h
  exact ⟨v, h1, h2, h3, fun g hg _ => (h4 g hg).1⟩
def litGA (tt : TT) (ops : Array Oper) (s : AS) : List Oper → Option (TypeId × Nat × List AC × Option Tmp × List (Nat × Bool))
  | o :: _ => match o.op, gTag s ops o with
    | .buildSlice t m ps, some T => match tyL tt t with
      | some ⟨_, _, _, .slice e⟩ => match tyL tt e, evs s T ps.toList with
        | some i, some vs => bif Nat.ble 1 i.size && Nat.beq (avOf i.zero).cells.length i.size && Nat.ble (m * i.size) 16777216 then (fillA (fun j => some (j * i.size, i.size)) (zrep m (avOf i.zero).cells) vs).map fun cs => (e, m, cs, o.dst, T) else none
        | _, _ => none
      | _ => none
    | _, _ => none
  | [] => none
def litGP (tt : TT) (ops : Array Oper) (s : AS) (l : List Oper) (s1 : AS) : Option AS :=
  match litGA tt ops s l with
  | some (_, _, _, d, T) => s1.put d T (.s (.ref s.nx))
  | none => none
section
variable {P : Program} {tt : TT} {cx : Cx} {s s' : AS} {Q : Exit → AS → Prop} {ops : Array Oper} {l : List Oper}
theorem LITG (hT : TTok P tt) (T : List (Nat × Bool)) (c : Bool) (e : TypeId) (m sz : Nat) (cs : List AC) {α : Type} (li : List α) (enc : α → List Value) (z : α)
    (h : (litGA tt ops s l).map (fun x => (x.1, x.2.1, x.2.2.1, x.2.2.2.2)) = some (e, m, cs, T)) (hc : cndT s T = some c) (hm : m = li.length) (henc : ∀ y, (enc y).length = sz) (hcs : ∀ n, cs.map (AC.c n) = flat li enc)
    (hp : (litGP tt ops s l (s.add (.sl .own e sz (bif c then li else []) enc z))).isSome = true)
    (hK : WPO P cx ops l.tail ((litGP tt ops s l (s.add (.sl .own e sz (bif c then li else []) enc z))).getD s) Q) : WPO P cx ops l s Q := by
  obtain ⟨⟨e', m', cs', d, T'⟩, ha, he'⟩ := Option.map_eq_some_iff.1 h
  simp only [Prod.mk.injEq] at he'
  obtain ⟨rfl, rfl, rfl, rfl⟩ := he'
  obtain ⟨s', hs'⟩ := Option.isSome_iff_exists.1 hp
  rw [hs'] at hK
  simp only [litGP, ha] at hs'
  cases l with
  | nil => cases ha
  | cons o rest =>
    simp only [litGA] at ha
    split at ha <;> try (cases ha; done)
    rename_i t m2 ps T2 ho hg
    split at ha <;> try (cases ha; done)
    rename_i z1 b1 zv1 e2' ht
    split at ha <;> try (cases ha; done)
    rename_i i vs hi hvs
    rcases hb : (Nat.ble 1 i.size && Nat.beq (avOf i.zero).cells.length i.size && Nat.ble (m2 * i.size) 16777216) with _ | _
    · rw [hb] at ha; cases ha
    · rw [hb] at ha
      simp only [Bool.and_eq_true] at hb
      obtain ⟨cs2, hcs2, he⟩ := Option.map_eq_some_iff.1 ha
      simp only [Prod.mk.injEq] at he
      obtain ⟨rfl, rfl, rfl, rfl, rfl⟩ := he
      have hb1 := Nat.le_of_ble_eq_true hb.1.1
      have hb2 := Nat.eq_of_beq_eq_true hb.1.2
      have hb3 := Nat.le_of_ble_eq_true hb.2
      intro n a w hs
      have hgt := gTag_sound hs hg
      have hcc := cndT_spec hs.env hc
      by_cases hH : Holds a T2
      · have hct := hcc.1 hH
        subst hct
        obtain ⟨F⟩ := hT.get ht
        obtain ⟨G⟩ := hT.get hi
        have hd : F.desc = .slice e2' := by
          have := F.td
          cases hd : F.desc <;> rw [hd] at this <;> simp only [tdOf] at this <;> first
            | (cases this; done)
            | (injection this with h; rw [h])
        obtain ⟨e1, e2, e3⟩ := evs_sound hs.env hH hvs
        have hzok : cellsOk s (avOf i.zero).cells := cells_ok (avOf_ok s _)
        have hok : cellsOk s cs2 := fill_ok (zrep_ok hzok m2) (fun x hx => cells_ok (e3 x hx)) hcs2
        have hm : m2 ≤ 16777216 := Nat.le_trans (Nat.le_mul_of_pos_right _ hb1) hb3
        have hrun : (execOp a.eval o).run P w = .ok (.value (.slice (some ⟨w.heap.size, 0, none⟩) m2 m2)) (w.alloc (.cells (cellsV n cs2) e2')) := by
          unfold execOp
          rw [ho]
          have hps : (ps.map fun x => (x.1, a.eval x.2)) = (vs.map fun x => (x.1, x.2.c n)).toArray := by
            apply Array.ext'
            simpa using e1
          have hf := fill_sound (n := n) hs.heap.one e2 hcs2
          have hzc : (i.zero).cells = ((avOf i.zero).cells.map (AC.c n)).toArray := zero_cells n
          rw [zrep_c (by omega), hb2] at hf
          have hnz : ¬ m2 * i.size > 2 ^ 24 := by simp; omega
          simp only [hps, Instr.buildSlice, Sem.run_bind, run_underlying F.hdesc, hd, Result.andThen_ok, run_sizeOf' G]
          rw [if_neg hnz]
          by_cases h0 : m2 * i.size = 0
          · rw [if_pos h0]
            simp only [Sem.run_pure, Result.andThen_ok, Sem.run_bind]
            rw [h0] at hf ⊢
            have hr : ∀ f : Nat → Value, (Array.range 0).map f = #[] := fun f => Array.ext' (by simp)
            simp only [hr] at hf ⊢
            simp only [hf, newRow, Sem.run_bind, run_newObj, Result.andThen_ok, Sem.run_pure, World.alloc_eq]
          · rw [if_neg h0]
            simp only [Sem.run_bind, run_zero' G, Result.andThen_ok, Sem.run_pure]
            rw [hzc]
            simp only [hf, newRow, Sem.run_bind, run_newObj, Result.andThen_ok, Sem.run_pure, World.alloc_eq]
        have hlen : (flat li enc).length = li.length * sz := flat_len henc li
        have hst : Sat cx (upd n s.nx (.slice (some ⟨w.heap.size, 0, none⟩) m2 m2)) (s.add (.sl .own e2' sz li enc z)) a (w.alloc (.cells (cellsV n cs2) e2')) := by
          refine env_add hs (upd_lt _ _ _) (hs.heap.add ((Below.refl _ _).alloc (Nat.le_refl _) _) rfl ⟨henc, fun g hg => ?_, hlen, .inr ⟨w.heap.size, li.length, cellsV n cs2, by rw [‹m2 = li.length›], Nat.zero_le _, by rw [heap_alloc_new], Nat.le_refl _, by rw [← ‹m2 = li.length›]; simp only [maxLen]; omega, ?_, ?_⟩⟩ trivial (fun g hg => ?_) (fun g hg => ?_))
          · simp only [vblk] at hg; cases hg; exact hs.heap.fr.news _ hs.heap.fr.size
          · simp only [cellsV, List.size_toArray, List.length_map]
            have := congrArg List.length (hcs n)
            rw [List.length_map, hlen] at this
            exact this
          · simp only [cellsV]
            rw [hcs n, List.take_of_length_le (by rw [hlen]; exact Nat.le_refl _)]
          · simp only [HE.foot, vblk] at hg; cases hg; simp
          · simp only [HE.foot, vblk] at hg; cases hg; exact .inl (Nat.le_refl _)
        exact wp_value (hgt.2 hH) hrun (hK _ _ _ (put_sat hst hs' (fun _ => ⟨by simp only [AV.c, AC.c, upd_same], Nat.lt_succ_self _⟩) (fun hn => absurd hH hn)))
      · have hcf : c = false := by cases c; rfl; exact absurd (hcc.2 rfl) hH
        subst hcf
        have hh : HSat cx (upd n s.nx (.slice none 0 0)) (s.add (.sl .own e2' sz ([] : List α) enc z)) w :=
          hs.heap.add (Below.refl _ _) rfl ⟨henc, fun g hg => (by cases hg), by rw [show flat ([] : List α) enc = [] from rfl]; exact ⟨by simp, .inl ⟨rfl, by simp⟩⟩⟩ trivial (fun g hg => (by cases hg)) (fun g hg => (by cases hg))
        have hst := env_add hs (upd_lt n s.nx _) hh
        exact wp_pass (fun hw => hH (hgt.1 hw)) (hK _ _ _ (put_sat hst hs' (fun hH' => absurd hH' hH) (fun _ => rfl)))
end
end Go.Proofs.YtamimgmoomcipaaDoor.Eng
namespace Go.Proofs.YtamimgmoomcipaaDoor.Eng
open Go Go.RowKit Go.ChangeShapes Go.WideShapes
set_option linter.unusedVariables false
set_option linter.unusedSimpArgs false
section
variable {P : Program} {w : World} {t e : TypeId}
theorem Opn_arr {m : Nat} (k n : Nat) (φ : List Value → Prop) (ht : P.underlying t = some (.array m e)) (hk : P.cellsOf e = k) (hn : P.cellsOf t = n) (hf : Opn P w e φ) :
    Opn P w t (fun cs => cs.length = n ∧ ∀ i, i < m → φ ((cs.drop (i * k)).take k)) := by
  have := Opn_array ht φ hf
  rw [hk, hn] at this
  exact this
theorem agg_of {cs : Array Value} {l : List Value} (h : cs.toList = l) : Value.agg cs = .agg l.toArray := by rw [← h]
end
end Go.Proofs.YtamimgmoomcipaaDoor.Eng
namespace Go.Proofs.YtamimgmoomcipaaDoor.Lw
open Go Go.RowKit Go.Proofs.YtamimgmoomcipaaDoor.Eng Go.Proofs.YtamimgmoomcipaaDoor.Fw Go.Proofs.YtamimgmoomcipaaDoor.Rf
set_option linter.unusedVariables false
set_option linter.unusedSimpArgs false
def shipL (minute : Int) (away : Span) (speed : Span) : Ship :=
  (⟨minute, away, speed⟩ : Ship)
theorem shipL_calls  (minute : Int) (away : Span) (speed : Span) (w : World)   : Calls Tryd.prog 51 #[iv minute, .agg #[iv away.lo, iv away.hi], .agg #[iv speed.lo, iv speed.hi]] w fun e w' => e = .returned (.agg #[iv (shipL minute away speed).m, iv (shipL minute away speed).aw.lo, iv (shipL minute away speed).aw.hi, iv (shipL minute away speed).sp.lo, iv (shipL minute away speed).sp.hi]) ∧ Below w.heap.size w w' := by
  refine calls_of_WP (cx := cx0 w Eng.n0 0) (n := Eng.n0) (vs := [.s (.int .i64 minute), .g [.int .i64 away.lo, .int .i64 away.hi], .g [.int .i64 speed.lo, .int .i64 speed.hi]]) (hp := []) (nx := 0) tt_ok Tryd.func51 rfl rfl rfl (by kernel_rfl) (HSat0 _ _ _ _ _ _ (fun _ => rfl) (Nat.le_refl _)) (vsOk (by kernel_rfl)) ?_
  refine WP_seq (WP_region (WPO_all tt_ok (by kernel_rfl) ?_))
  refine WP_seq (WP_region (WPO_all tt_ok (by kernel_rfl) ?_))
  refine WP_ret ?_
  exact ⟨.g [.int .i64 minute, .int .i64 away.lo, .int .i64 away.hi, .int .i64 speed.lo, .int .i64 speed.hi], by kernel_rfl, fun nV w' h => ⟨by rw [show shipL minute away speed = (⟨minute, away, speed⟩ : Ship) from rfl]; rfl, h.bel⟩⟩
def bookL (l : List Sight) : Book :=
  (⟨[(shipL 0 (rangeF 20 22) (pointF 2)), (shipL 4 (rangeF 36 42) (rangeF 3 4))], (rangeF 30 40), 1, 5, 2, l⟩ : Book)
theorem bookL_calls (g0 : Value) (l : List Sight) (w : World) (r0 : Reads w g0 4 l encSight zSight)  : Calls Tryd.prog 53 #[g0] w fun e w' => ∃ v0, e = .returned (.agg #[v0, iv (bookL l).hear.lo, iv (bookL l).hear.hi, iv (bookL l).br, iv (bookL l).cr, iv (bookL l).sl, g0]) ∧ Below w.heap.size w w' ∧ w'.ownsRow w.heap.size 65 5 v0 (bookL l).ships.length (flat (bookL l).ships encShip) := by
  refine calls_of_WP (cx := cx0 w (vn [g0]) 1) (n := vn [g0]) (vs := [.s (.ref 0)]) (hp := [(0, .sl .ro 70 4 l encSight zSight)]) (nx := 1) tt_ok Tryd.func53 rfl rfl rfl (by kernel_rfl) (HSat_args (vn_one (by simp [r0.one])) (Nat.le_refl _) ⟨⟨⟨fun _ => rfl, by decide, r0⟩, (Nat.le_of_ble_eq_true rfl)⟩, trivial⟩) (vsOk (by kernel_rfl)) ?_
  have hl0 := Reads.len r0
  refine WP_seq (WP_region (WPO_all tt_ok (by kernel_rfl) ?_))
  refine WP_seq (WP_region (CALL 41 [.s (.int .i64 20), .s (.int .i64 22)] (.g [.int .i64 (rangeF 20 22).lo, .int .i64 (rangeF 20 22).hi]) [] (by kernel_rfl) (goes_of (by kernel_rfl)) (by kernel_rfl) (by kernel_rfl) (fun _ nV w h => rangeF_calls  20 22 w  ) ?_))
  refine CALL 38 [.s (.int .i64 2)] (.g [.int .i64 (pointF 2).lo, .int .i64 (pointF 2).hi]) [] (by kernel_rfl) (goes_of (by kernel_rfl)) (by kernel_rfl) (by kernel_rfl) (fun _ nV w h => pointF_calls  2 w  ) ?_
  refine CALL 51 [.s (.int .i64 0), .g [.int .i64 (rangeF 20 22).lo, .int .i64 (rangeF 20 22).hi], .g [.int .i64 (pointF 2).lo, .int .i64 (pointF 2).hi]] (.g [.int .i64 (shipL 0 (rangeF 20 22) (pointF 2)).m, .int .i64 (shipL 0 (rangeF 20 22) (pointF 2)).aw.lo, .int .i64 (shipL 0 (rangeF 20 22) (pointF 2)).aw.hi, .int .i64 (shipL 0 (rangeF 20 22) (pointF 2)).sp.lo, .int .i64 (shipL 0 (rangeF 20 22) (pointF 2)).sp.hi]) [] (by kernel_rfl) (goes_of (by kernel_rfl)) (by kernel_rfl) (by kernel_rfl) (fun _ nV w h => shipL_calls  0 (rangeF 20 22) (pointF 2) w  ) ?_
  refine CALL 41 [.s (.int .i64 36), .s (.int .i64 42)] (.g [.int .i64 (rangeF 36 42).lo, .int .i64 (rangeF 36 42).hi]) [] (by kernel_rfl) (goes_of (by kernel_rfl)) (by kernel_rfl) (by kernel_rfl) (fun _ nV w h => rangeF_calls  36 42 w  ) ?_
  refine CALL 41 [.s (.int .i64 3), .s (.int .i64 4)] (.g [.int .i64 (rangeF 3 4).lo, .int .i64 (rangeF 3 4).hi]) [] (by kernel_rfl) (goes_of (by kernel_rfl)) (by kernel_rfl) (by kernel_rfl) (fun _ nV w h => rangeF_calls  3 4 w  ) ?_
  refine CALL 51 [.s (.int .i64 4), .g [.int .i64 (rangeF 36 42).lo, .int .i64 (rangeF 36 42).hi], .g [.int .i64 (rangeF 3 4).lo, .int .i64 (rangeF 3 4).hi]] (.g [.int .i64 (shipL 4 (rangeF 36 42) (rangeF 3 4)).m, .int .i64 (shipL 4 (rangeF 36 42) (rangeF 3 4)).aw.lo, .int .i64 (shipL 4 (rangeF 36 42) (rangeF 3 4)).aw.hi, .int .i64 (shipL 4 (rangeF 36 42) (rangeF 3 4)).sp.lo, .int .i64 (shipL 4 (rangeF 36 42) (rangeF 3 4)).sp.hi]) [] (by kernel_rfl) (goes_of (by kernel_rfl)) (by kernel_rfl) (by kernel_rfl) (fun _ nV w h => shipL_calls  4 (rangeF 36 42) (rangeF 3 4) w  ) ?_
  refine LIT tt_ok (by kernel_rfl) ?_
  refine LITSL 2 65 2 5 [.int .i64 (shipL 0 (rangeF 20 22) (pointF 2)).m, .int .i64 (shipL 0 (rangeF 20 22) (pointF 2)).aw.lo, .int .i64 (shipL 0 (rangeF 20 22) (pointF 2)).aw.hi, .int .i64 (shipL 0 (rangeF 20 22) (pointF 2)).sp.lo, .int .i64 (shipL 0 (rangeF 20 22) (pointF 2)).sp.hi, .int .i64 (shipL 4 (rangeF 36 42) (rangeF 3 4)).m, .int .i64 (shipL 4 (rangeF 36 42) (rangeF 3 4)).aw.lo, .int .i64 (shipL 4 (rangeF 36 42) (rangeF 3 4)).aw.hi, .int .i64 (shipL 4 (rangeF 36 42) (rangeF 3 4)).sp.lo, .int .i64 (shipL 4 (rangeF 36 42) (rangeF 3 4)).sp.hi] [(shipL 0 (rangeF 20 22) (pointF 2)), (shipL 4 (rangeF 36 42) (rangeF 3 4))] encShip zShip (by kernel_rfl) rfl (fun _ => rfl) (fun n => rfl) ?_
  refine CALL 41 [.s (.int .i64 30), .s (.int .i64 40)] (.g [.int .i64 (rangeF 30 40).lo, .int .i64 (rangeF 30 40).hi]) [] (by kernel_rfl) (goes_of (by kernel_rfl)) (by kernel_rfl) (by kernel_rfl) (fun _ nV w h => rangeF_calls  30 40 w  ) ?_
  refine WPO_all tt_ok (by kernel_rfl) ?_
  refine WP_ret ?_
  exact ⟨.g [.ref 2, .int .i64 (rangeF 30 40).lo, .int .i64 (rangeF 30 40).hi, .int .i64 1, .int .i64 5, .int .i64 2, .ref 0], by kernel_rfl, fun nV w' h => ⟨nV 2, by have e0 : nV 0 = g0 := h.ini 0 (by show 0 < 1; decide); rw [show bookL l = (⟨[(shipL 0 (rangeF 20 22) (pointF 2)), (shipL 4 (rangeF 36 42) (rangeF 3 4))], (rangeF 30 40), 1, 5, 2, l⟩ : Book) from rfl, ← e0]; rfl, h.bel, by rw [show bookL l = (⟨[(shipL 0 (rangeF 20 22) (pointF 2)), (shipL 4 (rangeF 36 42) (rangeF 3 4))], (rangeF 30 40), 1, 5, 2, l⟩ : Book) from rfl]; exact own_of (z := zShip) h (by kernel_rfl)⟩⟩
def ownL  : Book :=
  (⟨(bookL ([])).ships, (bookL ([])).hear, (bookL ([])).br, (bookL ([])).cr, (bookL ([])).sl, []⟩ : Book)
theorem ownL_calls   (w : World)   : Calls Tryd.prog 52 #[] w fun e w' => ∃ v0 v1, e = .returned (.agg #[v0, iv ownL.hear.lo, iv ownL.hear.hi, iv ownL.br, iv ownL.cr, iv ownL.sl, v1]) ∧ Below w.heap.size w w' ∧ fineRs w.heap.size w' [⟨65, 5, _, ownL.ships, encShip, zShip⟩, ⟨70, 4, _, ownL.sights, encSight, zSight⟩] [v0, v1] ∧ apartL [⟨65, 5, _, ownL.ships, encShip, zShip⟩, ⟨70, 4, _, ownL.sights, encSight, zSight⟩] [v0, v1] := by
  refine calls_of_WP (cx := cx0 w Eng.n0 0) (n := Eng.n0) (vs := []) (hp := []) (nx := 0) tt_ok Tryd.func52 rfl rfl rfl (by kernel_rfl) (HSat0 _ _ _ _ _ _ (fun _ => rfl) (Nat.le_refl _)) (vsOk (by kernel_rfl)) ?_
  refine WP_seq (WP_region (WPO_all tt_ok (by kernel_rfl) ?_))
  refine WP_seq (WP_region (CALLO 53 [.s (.v (.slice none 0 0))] (.g [.ref 1, .int .i64 (bookL ([])).hear.lo, .int .i64 (bookL ([])).hear.hi, .int .i64 (bookL ([])).br, .int .i64 (bookL ([])).cr, .int .i64 (bookL ([])).sl, .v (.slice none 0 0)]) 65 5 (bookL ([])).ships encShip zShip 1 (by kernel_rfl) (by kernel_rfl) (goes_of (by kernel_rfl)) (by kernel_rfl) (by kernel_rfl) (fun _ => rfl) ((fun nV w h => bookL_calls (.slice none 0 0) ([]) w reads_nil )) ?_))
  refine WPO_all tt_ok (by kernel_rfl) ?_
  refine WP_ret ?_
  exact ⟨.g [.ref 1, .int .i64 (bookL ([])).hear.lo, .int .i64 (bookL ([])).hear.hi, .int .i64 (bookL ([])).br, .int .i64 (bookL ([])).cr, .int .i64 (bookL ([])).sl, .v (.slice none 0 0)], by kernel_rfl, fun nV w' h => ⟨nV 1, .slice none 0 0, by rw [show ownL = (⟨(bookL ([])).ships, (bookL ([])).hear, (bookL ([])).br, (bookL ([])).cr, (bookL ([])).sl, []⟩ : Book) from rfl]; rfl, h.bel, by rw [show ownL = (⟨(bookL ([])).ships, (bookL ([])).hear, (bookL ([])).br, (bookL ([])).cr, (bookL ([])).sl, []⟩ : Book) from rfl]; exact ⟨own_lt (id := 1) (e := 65) (sz := 5) (li := (bookL ([])).ships) (enc := encShip) (z := zShip) h (by kernel_rfl), ⟨reads_nil, fun g hg => by cases hg⟩, trivial⟩, by rw [show ownL = (⟨(bookL ([])).ships, (bookL ([])).hear, (bookL ([])).br, (bookL ([])).cr, (bookL ([])).sl, []⟩ : Book) from rfl]; exact ⟨⟨fun g _ _ h1 _ => (by cases h1), trivial⟩, trivial, trivial⟩⟩⟩
def sightedL  : Book :=
  (⟨(bookL ([(⟨1, 9, (pointF 20)⟩ : Sight)])).ships, (bookL ([(⟨1, 9, (pointF 20)⟩ : Sight)])).hear, (bookL ([(⟨1, 9, (pointF 20)⟩ : Sight)])).br, (bookL ([(⟨1, 9, (pointF 20)⟩ : Sight)])).cr, (bookL ([(⟨1, 9, (pointF 20)⟩ : Sight)])).sl, [(⟨1, 9, (pointF 20)⟩ : Sight)]⟩ : Book)
theorem sightedL_calls   (w : World)   : Calls Tryd.prog 55 #[] w fun e w' => ∃ v0 v1, e = .returned (.agg #[v0, iv sightedL.hear.lo, iv sightedL.hear.hi, iv sightedL.br, iv sightedL.cr, iv sightedL.sl, v1]) ∧ Below w.heap.size w w' ∧ fineRs w.heap.size w' [⟨65, 5, _, sightedL.ships, encShip, zShip⟩, ⟨70, 4, _, sightedL.sights, encSight, zSight⟩] [v0, v1] ∧ apartL [⟨65, 5, _, sightedL.ships, encShip, zShip⟩, ⟨70, 4, _, sightedL.sights, encSight, zSight⟩] [v0, v1] := by
  refine calls_of_WP (cx := cx0 w Eng.n0 0) (n := Eng.n0) (vs := []) (hp := []) (nx := 0) tt_ok Tryd.func55 rfl rfl rfl (by kernel_rfl) (HSat0 _ _ _ _ _ _ (fun _ => rfl) (Nat.le_refl _)) (vsOk (by kernel_rfl)) ?_
  refine WP_seq (WP_region (WPO_all tt_ok (by kernel_rfl) ?_))
  refine WP_seq (WP_region (CALL 38 [.s (.int .i64 20)] (.g [.int .i64 (pointF 20).lo, .int .i64 (pointF 20).hi]) [] (by kernel_rfl) (goes_of (by kernel_rfl)) (by kernel_rfl) (by kernel_rfl) (fun _ nV w h => pointF_calls  20 w  ) ?_))
  refine WPO_run tt_ok 1 (by kernel_rfl) ?_
  refine LIT tt_ok (by kernel_rfl) ?_
  refine LITSL 1 70 1 4 [.int .i64 1, .int .i64 9, .int .i64 (pointF 20).lo, .int .i64 (pointF 20).hi] [(⟨1, 9, (pointF 20)⟩ : Sight)] encSight zSight (by kernel_rfl) rfl (fun _ => rfl) (fun n => rfl) ?_
  refine CALLO 53 [.s (.ref 1)] (.g [.ref 2, .int .i64 (bookL ([(⟨1, 9, (pointF 20)⟩ : Sight)])).hear.lo, .int .i64 (bookL ([(⟨1, 9, (pointF 20)⟩ : Sight)])).hear.hi, .int .i64 (bookL ([(⟨1, 9, (pointF 20)⟩ : Sight)])).br, .int .i64 (bookL ([(⟨1, 9, (pointF 20)⟩ : Sight)])).cr, .int .i64 (bookL ([(⟨1, 9, (pointF 20)⟩ : Sight)])).sl, .ref 1]) 65 5 (bookL ([(⟨1, 9, (pointF 20)⟩ : Sight)])).ships encShip zShip 2 (by kernel_rfl) (by kernel_rfl) (goes_of (by kernel_rfl)) (by kernel_rfl) (by kernel_rfl) (fun _ => rfl) ((fun nV w h => bookL_calls (nV 1) ([(⟨1, 9, (pointF 20)⟩ : Sight)]) w (h.reads (id := 1) (kd := .own) (e := 70) (by kernel_rfl)) )) ?_
  refine WPO_all tt_ok (by kernel_rfl) ?_
  refine WP_ret ?_
  exact ⟨.g [.ref 2, .int .i64 (bookL ([(⟨1, 9, (pointF 20)⟩ : Sight)])).hear.lo, .int .i64 (bookL ([(⟨1, 9, (pointF 20)⟩ : Sight)])).hear.hi, .int .i64 (bookL ([(⟨1, 9, (pointF 20)⟩ : Sight)])).br, .int .i64 (bookL ([(⟨1, 9, (pointF 20)⟩ : Sight)])).cr, .int .i64 (bookL ([(⟨1, 9, (pointF 20)⟩ : Sight)])).sl, .ref 1], by kernel_rfl, fun nV w' h => ⟨nV 2, nV 1, by rw [show sightedL = (⟨(bookL ([(⟨1, 9, (pointF 20)⟩ : Sight)])).ships, (bookL ([(⟨1, 9, (pointF 20)⟩ : Sight)])).hear, (bookL ([(⟨1, 9, (pointF 20)⟩ : Sight)])).br, (bookL ([(⟨1, 9, (pointF 20)⟩ : Sight)])).cr, (bookL ([(⟨1, 9, (pointF 20)⟩ : Sight)])).sl, [(⟨1, 9, (pointF 20)⟩ : Sight)]⟩ : Book) from rfl]; rfl, h.bel, by rw [show sightedL = (⟨(bookL ([(⟨1, 9, (pointF 20)⟩ : Sight)])).ships, (bookL ([(⟨1, 9, (pointF 20)⟩ : Sight)])).hear, (bookL ([(⟨1, 9, (pointF 20)⟩ : Sight)])).br, (bookL ([(⟨1, 9, (pointF 20)⟩ : Sight)])).cr, (bookL ([(⟨1, 9, (pointF 20)⟩ : Sight)])).sl, [(⟨1, 9, (pointF 20)⟩ : Sight)]⟩ : Book) from rfl]; exact ⟨own_lt (id := 2) (e := 65) (sz := 5) (li := (bookL ([(⟨1, 9, (pointF 20)⟩ : Sight)])).ships) (enc := encShip) (z := zShip) h (by kernel_rfl), own_lt (id := 1) (e := 70) (sz := 4) (li := ([(⟨1, 9, (pointF 20)⟩ : Sight)])) (enc := encSight) (z := zSight) h (by kernel_rfl), trivial⟩, by rw [show sightedL = (⟨(bookL ([(⟨1, 9, (pointF 20)⟩ : Sight)])).ships, (bookL ([(⟨1, 9, (pointF 20)⟩ : Sight)])).hear, (bookL ([(⟨1, 9, (pointF 20)⟩ : Sight)])).br, (bookL ([(⟨1, 9, (pointF 20)⟩ : Sight)])).cr, (bookL ([(⟨1, 9, (pointF 20)⟩ : Sight)])).sl, [(⟨1, 9, (pointF 20)⟩ : Sight)]⟩ : Book) from rfl]; exact ⟨⟨fun g h1 h2 h3 h4 => own_apart h (i := 2) (j := 1) (x := .sl .own 65 5 (bookL ([(⟨1, 9, (pointF 20)⟩ : Sight)])).ships encShip zShip) (y := .sl .own 70 4 ([(⟨1, 9, (pointF 20)⟩ : Sight)]) encSight zSight) (by kernel_rfl) (by kernel_rfl) (by decide) rfl g h1 h3, trivial⟩, trivial, trivial⟩⟩⟩
def tornL  : Book :=
  (⟨(bookL ([(⟨1, 9, (pointF 20)⟩ : Sight), (⟨1, 9, (rangeF 25 26)⟩ : Sight)])).ships, (bookL ([(⟨1, 9, (pointF 20)⟩ : Sight), (⟨1, 9, (rangeF 25 26)⟩ : Sight)])).hear, (bookL ([(⟨1, 9, (pointF 20)⟩ : Sight), (⟨1, 9, (rangeF 25 26)⟩ : Sight)])).br, (bookL ([(⟨1, 9, (pointF 20)⟩ : Sight), (⟨1, 9, (rangeF 25 26)⟩ : Sight)])).cr, (bookL ([(⟨1, 9, (pointF 20)⟩ : Sight), (⟨1, 9, (rangeF 25 26)⟩ : Sight)])).sl, [(⟨1, 9, (pointF 20)⟩ : Sight), (⟨1, 9, (rangeF 25 26)⟩ : Sight)]⟩ : Book)
theorem tornL_calls   (w : World)   : Calls Tryd.prog 54 #[] w fun e w' => ∃ v0 v1, e = .returned (.agg #[v0, iv tornL.hear.lo, iv tornL.hear.hi, iv tornL.br, iv tornL.cr, iv tornL.sl, v1]) ∧ Below w.heap.size w w' ∧ fineRs w.heap.size w' [⟨65, 5, _, tornL.ships, encShip, zShip⟩, ⟨70, 4, _, tornL.sights, encSight, zSight⟩] [v0, v1] ∧ apartL [⟨65, 5, _, tornL.ships, encShip, zShip⟩, ⟨70, 4, _, tornL.sights, encSight, zSight⟩] [v0, v1] := by
  refine calls_of_WP (cx := cx0 w Eng.n0 0) (n := Eng.n0) (vs := []) (hp := []) (nx := 0) tt_ok Tryd.func54 rfl rfl rfl (by kernel_rfl) (HSat0 _ _ _ _ _ _ (fun _ => rfl) (Nat.le_refl _)) (vsOk (by kernel_rfl)) ?_
  refine WP_seq (WP_region (WPO_all tt_ok (by kernel_rfl) ?_))
  refine WP_seq (WP_region (CALL 38 [.s (.int .i64 20)] (.g [.int .i64 (pointF 20).lo, .int .i64 (pointF 20).hi]) [] (by kernel_rfl) (goes_of (by kernel_rfl)) (by kernel_rfl) (by kernel_rfl) (fun _ nV w h => pointF_calls  20 w  ) ?_))
  refine WPO_run tt_ok 1 (by kernel_rfl) ?_
  refine CALL 41 [.s (.int .i64 25), .s (.int .i64 26)] (.g [.int .i64 (rangeF 25 26).lo, .int .i64 (rangeF 25 26).hi]) [] (by kernel_rfl) (goes_of (by kernel_rfl)) (by kernel_rfl) (by kernel_rfl) (fun _ nV w h => rangeF_calls  25 26 w  ) ?_
  refine WPO_run tt_ok 1 (by kernel_rfl) ?_
  refine LIT tt_ok (by kernel_rfl) ?_
  refine LITSL 1 70 2 4 [.int .i64 1, .int .i64 9, .int .i64 (pointF 20).lo, .int .i64 (pointF 20).hi, .int .i64 1, .int .i64 9, .int .i64 (rangeF 25 26).lo, .int .i64 (rangeF 25 26).hi] [(⟨1, 9, (pointF 20)⟩ : Sight), (⟨1, 9, (rangeF 25 26)⟩ : Sight)] encSight zSight (by kernel_rfl) rfl (fun _ => rfl) (fun n => rfl) ?_
  refine CALLO 53 [.s (.ref 1)] (.g [.ref 2, .int .i64 (bookL ([(⟨1, 9, (pointF 20)⟩ : Sight), (⟨1, 9, (rangeF 25 26)⟩ : Sight)])).hear.lo, .int .i64 (bookL ([(⟨1, 9, (pointF 20)⟩ : Sight), (⟨1, 9, (rangeF 25 26)⟩ : Sight)])).hear.hi, .int .i64 (bookL ([(⟨1, 9, (pointF 20)⟩ : Sight), (⟨1, 9, (rangeF 25 26)⟩ : Sight)])).br, .int .i64 (bookL ([(⟨1, 9, (pointF 20)⟩ : Sight), (⟨1, 9, (rangeF 25 26)⟩ : Sight)])).cr, .int .i64 (bookL ([(⟨1, 9, (pointF 20)⟩ : Sight), (⟨1, 9, (rangeF 25 26)⟩ : Sight)])).sl, .ref 1]) 65 5 (bookL ([(⟨1, 9, (pointF 20)⟩ : Sight), (⟨1, 9, (rangeF 25 26)⟩ : Sight)])).ships encShip zShip 2 (by kernel_rfl) (by kernel_rfl) (goes_of (by kernel_rfl)) (by kernel_rfl) (by kernel_rfl) (fun _ => rfl) ((fun nV w h => bookL_calls (nV 1) ([(⟨1, 9, (pointF 20)⟩ : Sight), (⟨1, 9, (rangeF 25 26)⟩ : Sight)]) w (h.reads (id := 1) (kd := .own) (e := 70) (by kernel_rfl)) )) ?_
  refine WPO_all tt_ok (by kernel_rfl) ?_
  refine WP_ret ?_
  exact ⟨.g [.ref 2, .int .i64 (bookL ([(⟨1, 9, (pointF 20)⟩ : Sight), (⟨1, 9, (rangeF 25 26)⟩ : Sight)])).hear.lo, .int .i64 (bookL ([(⟨1, 9, (pointF 20)⟩ : Sight), (⟨1, 9, (rangeF 25 26)⟩ : Sight)])).hear.hi, .int .i64 (bookL ([(⟨1, 9, (pointF 20)⟩ : Sight), (⟨1, 9, (rangeF 25 26)⟩ : Sight)])).br, .int .i64 (bookL ([(⟨1, 9, (pointF 20)⟩ : Sight), (⟨1, 9, (rangeF 25 26)⟩ : Sight)])).cr, .int .i64 (bookL ([(⟨1, 9, (pointF 20)⟩ : Sight), (⟨1, 9, (rangeF 25 26)⟩ : Sight)])).sl, .ref 1], by kernel_rfl, fun nV w' h => ⟨nV 2, nV 1, by rw [show tornL = (⟨(bookL ([(⟨1, 9, (pointF 20)⟩ : Sight), (⟨1, 9, (rangeF 25 26)⟩ : Sight)])).ships, (bookL ([(⟨1, 9, (pointF 20)⟩ : Sight), (⟨1, 9, (rangeF 25 26)⟩ : Sight)])).hear, (bookL ([(⟨1, 9, (pointF 20)⟩ : Sight), (⟨1, 9, (rangeF 25 26)⟩ : Sight)])).br, (bookL ([(⟨1, 9, (pointF 20)⟩ : Sight), (⟨1, 9, (rangeF 25 26)⟩ : Sight)])).cr, (bookL ([(⟨1, 9, (pointF 20)⟩ : Sight), (⟨1, 9, (rangeF 25 26)⟩ : Sight)])).sl, [(⟨1, 9, (pointF 20)⟩ : Sight), (⟨1, 9, (rangeF 25 26)⟩ : Sight)]⟩ : Book) from rfl]; rfl, h.bel, by rw [show tornL = (⟨(bookL ([(⟨1, 9, (pointF 20)⟩ : Sight), (⟨1, 9, (rangeF 25 26)⟩ : Sight)])).ships, (bookL ([(⟨1, 9, (pointF 20)⟩ : Sight), (⟨1, 9, (rangeF 25 26)⟩ : Sight)])).hear, (bookL ([(⟨1, 9, (pointF 20)⟩ : Sight), (⟨1, 9, (rangeF 25 26)⟩ : Sight)])).br, (bookL ([(⟨1, 9, (pointF 20)⟩ : Sight), (⟨1, 9, (rangeF 25 26)⟩ : Sight)])).cr, (bookL ([(⟨1, 9, (pointF 20)⟩ : Sight), (⟨1, 9, (rangeF 25 26)⟩ : Sight)])).sl, [(⟨1, 9, (pointF 20)⟩ : Sight), (⟨1, 9, (rangeF 25 26)⟩ : Sight)]⟩ : Book) from rfl]; exact ⟨own_lt (id := 2) (e := 65) (sz := 5) (li := (bookL ([(⟨1, 9, (pointF 20)⟩ : Sight), (⟨1, 9, (rangeF 25 26)⟩ : Sight)])).ships) (enc := encShip) (z := zShip) h (by kernel_rfl), own_lt (id := 1) (e := 70) (sz := 4) (li := ([(⟨1, 9, (pointF 20)⟩ : Sight), (⟨1, 9, (rangeF 25 26)⟩ : Sight)])) (enc := encSight) (z := zSight) h (by kernel_rfl), trivial⟩, by rw [show tornL = (⟨(bookL ([(⟨1, 9, (pointF 20)⟩ : Sight), (⟨1, 9, (rangeF 25 26)⟩ : Sight)])).ships, (bookL ([(⟨1, 9, (pointF 20)⟩ : Sight), (⟨1, 9, (rangeF 25 26)⟩ : Sight)])).hear, (bookL ([(⟨1, 9, (pointF 20)⟩ : Sight), (⟨1, 9, (rangeF 25 26)⟩ : Sight)])).br, (bookL ([(⟨1, 9, (pointF 20)⟩ : Sight), (⟨1, 9, (rangeF 25 26)⟩ : Sight)])).cr, (bookL ([(⟨1, 9, (pointF 20)⟩ : Sight), (⟨1, 9, (rangeF 25 26)⟩ : Sight)])).sl, [(⟨1, 9, (pointF 20)⟩ : Sight), (⟨1, 9, (rangeF 25 26)⟩ : Sight)]⟩ : Book) from rfl]; exact ⟨⟨fun g h1 h2 h3 h4 => own_apart h (i := 2) (j := 1) (x := .sl .own 65 5 (bookL ([(⟨1, 9, (pointF 20)⟩ : Sight), (⟨1, 9, (rangeF 25 26)⟩ : Sight)])).ships encShip zShip) (y := .sl .own 70 4 ([(⟨1, 9, (pointF 20)⟩ : Sight), (⟨1, 9, (rangeF 25 26)⟩ : Sight)]) encSight zSight) (by kernel_rfl) (by kernel_rfl) (by decide) rfl g h1 h3, trivial⟩, trivial, trivial⟩⟩⟩
end Go.Proofs.YtamimgmoomcipaaDoor.Lw
namespace Go.Proofs.YtamimgmoomcipaaDoor.Lw
open Go Go.RowKit Go.Proofs.YtamimgmoomcipaaDoor.Eng Go.Proofs.YtamimgmoomcipaaDoor.Fw Go.Proofs.YtamimgmoomcipaaDoor.Rf
set_option linter.unusedVariables false
set_option linter.unusedSimpArgs false
def passedL  : Bool :=
  (bif ((((((((((hearA ownL).2 != 0) || ((nearA sightedL 1 14).2 != 0)) || ((whenA ownL 1).2 != 0)) || ((clearA ownL 4).2 != 0)) || ((mayA ownL 5).2 != 0)) || (!((hearA ownL).1.lo == (rangeF 36 40).lo && (hearA ownL).1.hi == (rangeF 36 40).hi))) || ((nearA sightedL 1 14).1 != 2)) || (!((whenA ownL 1).1.lo == (rangeF 13 17).lo && (whenA ownL 1).1.hi == (rangeF 13 17).hi))) || ((clearA ownL 4).1 != 1)) || ((mayA ownL 5).1 != 10) then false else ((((((((nextA sightedL 4).2 == 0) && ((wrongA tornL).2 == 0)) && ((rightA ownL).2 == 0)) && ((freeA ownL).2 == 0)) && ((nextA sightedL 4).1 == 15)) && (alikeF (wrongA tornL).1 (bif (true && (((((((nextA sightedL 4).2 == 0) && ((wrongA tornL).2 == 0)) && ((rightA ownL).2 == 0)) && ((freeA ownL).2 == 0)) && ((nextA sightedL 4).1 == 15)) == true)) then [0] else []))) && (rightA ownL).1) && (((freeA ownL).1.length : Int) == 47))
theorem passedL_calls   (w : World)  (ha : AsksAt w) : Calls Tryd.prog 18 #[] w fun e w' => e = .returned (.bool passedL) ∧ Below w.heap.size w w' := by
  refine calls_of_WP (cx := cx0 w Eng.n0 0) (n := Eng.n0) (vs := []) (hp := [(0, .pf AsksAt (· = 0))]) (nx := 1) tt_ok Tryd.func18 rfl rfl rfl (by kernel_rfl) (HSat_args (fun _ => rfl) (by decide) ⟨⟨⟨ha, fun w1 w2 h1 hw => (hw 0 rfl).trans h1, fun g hg => by cases hg; exact (Array.getElem?_eq_some_iff.1 ha).1⟩, (Nat.le_of_ble_eq_true rfl)⟩, trivial⟩) (vsOk (by kernel_rfl)) ?_
  refine WP_seq (WP_region (WPO_all tt_ok (by kernel_rfl) ?_))
  refine WP_seq (WP_region (CALLRS 52 [] (.g [.ref 1, .int .i64 ownL.hear.lo, .int .i64 ownL.hear.hi, .int .i64 ownL.br, .int .i64 ownL.cr, .int .i64 ownL.sl, .ref 2]) [⟨65, 5, _, ownL.ships, encShip, zShip⟩, ⟨70, 4, _, ownL.sights, encSight, zSight⟩] 1 (by kernel_rfl) (by kernel_rfl) (goes_of (by kernel_rfl)) (by kernel_rfl) (by kernel_rfl) ⟨⟨(Nat.le_of_ble_eq_true rfl), fun _ => rfl⟩, ⟨(Nat.le_of_ble_eq_true rfl), fun _ => rfl⟩, trivial⟩ (fun nV w h => (ownL_calls   w  ).mono fun e w' ⟨v0, v1, h1, h2, h3, _⟩ => ⟨[v0, v1], h1, h2, h3⟩) ?_))
  refine CALL 27 [.g [.ref 1, .int .i64 ownL.hear.lo, .int .i64 ownL.hear.hi, .int .i64 ownL.br, .int .i64 ownL.cr, .int .i64 ownL.sl, .ref 2]] (.t [(true, [.int .i64 (hearA ownL).1.lo, .int .i64 (hearA ownL).1.hi]), (false, [.int .i64 (hearA ownL).2])]) [] (by kernel_rfl) (goes_of (by kernel_rfl)) (by kernel_rfl) (by kernel_rfl) (fun _ nV w h => hearA_calls (nV 1) (nV 2) ownL w (h.reads (id := 1) (kd := .ro) (e := 65) (by kernel_rfl)) (h.reads (id := 2) (kd := .ro) (e := 70) (by kernel_rfl)) (h.ents (0, .pf AsksAt (· = 0)) (fnd_mem (by kernel_rfl))).1 ) ?_
  refine WPO_all tt_ok (by kernel_rfl) ?_
  refine WP_seq (WP_region (CALLRS 55 [] (.g [.ref 4, .int .i64 sightedL.hear.lo, .int .i64 sightedL.hear.hi, .int .i64 sightedL.br, .int .i64 sightedL.cr, .int .i64 sightedL.sl, .ref 5]) [⟨65, 5, _, sightedL.ships, encShip, zShip⟩, ⟨70, 4, _, sightedL.sights, encSight, zSight⟩] 4 (by kernel_rfl) (by kernel_rfl) (goes_of (by kernel_rfl)) (by kernel_rfl) (by kernel_rfl) ⟨⟨(Nat.le_of_ble_eq_true rfl), fun _ => rfl⟩, ⟨(Nat.le_of_ble_eq_true rfl), fun _ => rfl⟩, trivial⟩ (fun nV w h => (sightedL_calls   w  ).mono fun e w' ⟨v0, v1, h1, h2, h3, _⟩ => ⟨[v0, v1], h1, h2, h3⟩) ?_))
  refine CALL 35 [.g [.ref 4, .int .i64 sightedL.hear.lo, .int .i64 sightedL.hear.hi, .int .i64 sightedL.br, .int .i64 sightedL.cr, .int .i64 sightedL.sl, .ref 5], .s (.int .i64 1), .s (.int .i64 14)] (.t [(false, [.int .i64 (nearA sightedL 1 14).1]), (false, [.int .i64 (nearA sightedL 1 14).2])]) [] (by kernel_rfl) (goes_of (by kernel_rfl)) (by kernel_rfl) (by kernel_rfl) (fun _ nV w h => nearA_calls (nV 4) (nV 5) sightedL 1 14 w (h.reads (id := 4) (kd := .ro) (e := 65) (by kernel_rfl)) (h.reads (id := 5) (kd := .ro) (e := 70) (by kernel_rfl)) (h.ents (0, .pf AsksAt (· = 0)) (fnd_mem (by kernel_rfl))).1 ) ?_
  refine WPO_all tt_ok (by kernel_rfl) ?_
  refine WP_seq (WP_region (CALLRS 52 [] (.g [.ref 6, .int .i64 ownL.hear.lo, .int .i64 ownL.hear.hi, .int .i64 ownL.br, .int .i64 ownL.cr, .int .i64 ownL.sl, .ref 7]) [⟨65, 5, _, ownL.ships, encShip, zShip⟩, ⟨70, 4, _, ownL.sights, encSight, zSight⟩] 6 (by kernel_rfl) (by kernel_rfl) (goes_of (by kernel_rfl)) (by kernel_rfl) (by kernel_rfl) ⟨⟨(Nat.le_of_ble_eq_true rfl), fun _ => rfl⟩, ⟨(Nat.le_of_ble_eq_true rfl), fun _ => rfl⟩, trivial⟩ (fun nV w h => (ownL_calls   w  ).mono fun e w' ⟨v0, v1, h1, h2, h3, _⟩ => ⟨[v0, v1], h1, h2, h3⟩) ?_))
  refine CALL 36 [.g [.ref 6, .int .i64 ownL.hear.lo, .int .i64 ownL.hear.hi, .int .i64 ownL.br, .int .i64 ownL.cr, .int .i64 ownL.sl, .ref 7], .s (.int .i64 1)] (.t [(true, [.int .i64 (whenA ownL 1).1.lo, .int .i64 (whenA ownL 1).1.hi]), (false, [.int .i64 (whenA ownL 1).2])]) [] (by kernel_rfl) (goes_of (by kernel_rfl)) (by kernel_rfl) (by kernel_rfl) (fun _ nV w h => whenA_calls (nV 6) (nV 7) ownL 1 w (h.reads (id := 6) (kd := .ro) (e := 65) (by kernel_rfl)) (h.reads (id := 7) (kd := .ro) (e := 70) (by kernel_rfl)) (h.ents (0, .pf AsksAt (· = 0)) (fnd_mem (by kernel_rfl))).1 ) ?_
  refine WPO_all tt_ok (by kernel_rfl) ?_
  refine WP_seq (WP_region (CALLRS 52 [] (.g [.ref 9, .int .i64 ownL.hear.lo, .int .i64 ownL.hear.hi, .int .i64 ownL.br, .int .i64 ownL.cr, .int .i64 ownL.sl, .ref 10]) [⟨65, 5, _, ownL.ships, encShip, zShip⟩, ⟨70, 4, _, ownL.sights, encSight, zSight⟩] 9 (by kernel_rfl) (by kernel_rfl) (goes_of (by kernel_rfl)) (by kernel_rfl) (by kernel_rfl) ⟨⟨(Nat.le_of_ble_eq_true rfl), fun _ => rfl⟩, ⟨(Nat.le_of_ble_eq_true rfl), fun _ => rfl⟩, trivial⟩ (fun nV w h => (ownL_calls   w  ).mono fun e w' ⟨v0, v1, h1, h2, h3, _⟩ => ⟨[v0, v1], h1, h2, h3⟩) ?_))
  refine CALL 28 [.g [.ref 9, .int .i64 ownL.hear.lo, .int .i64 ownL.hear.hi, .int .i64 ownL.br, .int .i64 ownL.cr, .int .i64 ownL.sl, .ref 10], .s (.int .i64 4)] (.t [(false, [.int .i64 (clearA ownL 4).1]), (false, [.int .i64 (clearA ownL 4).2])]) [] (by kernel_rfl) (goes_of (by kernel_rfl)) (by kernel_rfl) (by kernel_rfl) (fun _ nV w h => clearA_calls (nV 9) (nV 10) ownL 4 w (h.reads (id := 9) (kd := .ro) (e := 65) (by kernel_rfl)) (h.reads (id := 10) (kd := .ro) (e := 70) (by kernel_rfl)) (h.ents (0, .pf AsksAt (· = 0)) (fnd_mem (by kernel_rfl))).1 ) ?_
  refine WPO_all tt_ok (by kernel_rfl) ?_
  refine WP_seq (WP_region (CALLRS 52 [] (.g [.ref 11, .int .i64 ownL.hear.lo, .int .i64 ownL.hear.hi, .int .i64 ownL.br, .int .i64 ownL.cr, .int .i64 ownL.sl, .ref 12]) [⟨65, 5, _, ownL.ships, encShip, zShip⟩, ⟨70, 4, _, ownL.sights, encSight, zSight⟩] 11 (by kernel_rfl) (by kernel_rfl) (goes_of (by kernel_rfl)) (by kernel_rfl) (by kernel_rfl) ⟨⟨(Nat.le_of_ble_eq_true rfl), fun _ => rfl⟩, ⟨(Nat.le_of_ble_eq_true rfl), fun _ => rfl⟩, trivial⟩ (fun nV w h => (ownL_calls   w  ).mono fun e w' ⟨v0, v1, h1, h2, h3, _⟩ => ⟨[v0, v1], h1, h2, h3⟩) ?_))
  refine CALL 29 [.g [.ref 11, .int .i64 ownL.hear.lo, .int .i64 ownL.hear.hi, .int .i64 ownL.br, .int .i64 ownL.cr, .int .i64 ownL.sl, .ref 12], .s (.int .i64 5)] (.t [(false, [.int .i64 (mayA ownL 5).1]), (false, [.int .i64 (mayA ownL 5).2])]) [] (by kernel_rfl) (goes_of (by kernel_rfl)) (by kernel_rfl) (by kernel_rfl) (fun _ nV w h => mayA_calls (nV 11) (nV 12) ownL 5 w (h.reads (id := 11) (kd := .ro) (e := 65) (by kernel_rfl)) (h.reads (id := 12) (kd := .ro) (e := 70) (by kernel_rfl)) (h.ents (0, .pf AsksAt (· = 0)) (fnd_mem (by kernel_rfl))).1 ) ?_
  refine WPO_all tt_ok (by kernel_rfl) ?_
  refine WP_seq (WP_seq (WP_draw (by kernel_rfl) (by kernel_rfl) ?_))
  refine WPQ_run tt_ok 20 (by kernel_rfl) ?_
  refine QCALL 41 [.s (.int .i64 36), .s (.int .i64 40)] (.g [.int .i64 (rangeF 36 40).lo, .int .i64 (rangeF 36 40).hi]) [((((((hearA ownL).2 != 0) || ((nearA sightedL 1 14).2 != 0)) || ((whenA ownL 1).2 != 0)) || ((clearA ownL 4).2 != 0)) || ((mayA ownL 5).2 != 0), false)] (by kernel_rfl) (goes_of (by kernel_rfl)) (by kernel_rfl) (by kernel_rfl) (fun _ nV w h => rangeF_calls  36 40 w  ) ?_
  refine QBIN .neq 24 (.tmp 59) (.tmp 60) (.g [.int .i64 (hearA ownL).1.lo, .int .i64 (hearA ownL).1.hi]) (.g [.int .i64 (rangeF 36 40).lo, .int .i64 (rangeF 36 40).hi]) (.s (.bool (!((hearA ownL).1.lo == (rangeF 36 40).lo && (hearA ownL).1.hi == (rangeF 36 40).hi)))) [((((((hearA ownL).2 != 0) || ((nearA sightedL 1 14).2 != 0)) || ((whenA ownL 1).2 != 0)) || ((clearA ownL 4).2 != 0)) || ((mayA ownL 5).2 != 0), false)] (by kernel_rfl) (by kernel_rfl) (by kernel_rfl) (fun _ => BinOk_pairN (by kernel_rfl) _ _ _ _) ?_
  refine WPQ_run tt_ok 7 (by kernel_rfl) ?_
  refine QCALL 41 [.s (.int .i64 13), .s (.int .i64 17)] (.g [.int .i64 (rangeF 13 17).lo, .int .i64 (rangeF 13 17).hi]) [((((((((hearA ownL).2 != 0) || ((nearA sightedL 1 14).2 != 0)) || ((whenA ownL 1).2 != 0)) || ((clearA ownL 4).2 != 0)) || ((mayA ownL 5).2 != 0)) || (!((hearA ownL).1.lo == (rangeF 36 40).lo && (hearA ownL).1.hi == (rangeF 36 40).hi))) || ((nearA sightedL 1 14).1 != 2), false)] (by kernel_rfl) (goes_of (by kernel_rfl)) (by kernel_rfl) (by kernel_rfl) (fun _ nV w h => rangeF_calls  13 17 w  ) ?_
  refine QBIN .neq 24 (.tmp 68) (.tmp 69) (.g [.int .i64 (whenA ownL 1).1.lo, .int .i64 (whenA ownL 1).1.hi]) (.g [.int .i64 (rangeF 13 17).lo, .int .i64 (rangeF 13 17).hi]) (.s (.bool (!((whenA ownL 1).1.lo == (rangeF 13 17).lo && (whenA ownL 1).1.hi == (rangeF 13 17).hi)))) [((((((((hearA ownL).2 != 0) || ((nearA sightedL 1 14).2 != 0)) || ((whenA ownL 1).2 != 0)) || ((clearA ownL 4).2 != 0)) || ((mayA ownL 5).2 != 0)) || (!((hearA ownL).1.lo == (rangeF 36 40).lo && (hearA ownL).1.hi == (rangeF 36 40).hi))) || ((nearA sightedL 1 14).1 != 2), false)] (by kernel_rfl) (by kernel_rfl) (by kernel_rfl) (fun _ => BinOk_pairN (by kernel_rfl) _ _ _ _) ?_
  refine WPQ_all tt_ok (by kernel_rfl) ?_
  refine WP_cond (((((((((((hearA ownL).2 != 0) || ((nearA sightedL 1 14).2 != 0)) || ((whenA ownL 1).2 != 0)) || ((clearA ownL 4).2 != 0)) || ((mayA ownL 5).2 != 0)) || (!((hearA ownL).1.lo == (rangeF 36 40).lo && (hearA ownL).1.hi == (rangeF 36 40).hi))) || ((nearA sightedL 1 14).1 != 2)) || (!((whenA ownL 1).1.lo == (rangeF 13 17).lo && (whenA ownL 1).1.hi == (rangeF 13 17).hi))) || ((clearA ownL 4).1 != 1)) || ((mayA ownL 5).1 != 10)) (by kernel_rfl) (fun hc2 => ?_) (fun hc2 => ?_)
  · have hc2' := hc2; try simp only [Bool.and_eq_true, Bool.or_eq_true, Bool.and_eq_false_iff, Bool.or_eq_false_iff, Bool.not_eq_true', Bool.not_eq_false', decide_eq_true_eq, decide_eq_false_iff_not, beq_iff_eq, beq_eq_false_iff_ne, bne_iff_ne, bne_eq_false_iff_eq, ne_eq] at hc2'
    refine WP_seq (WP_region (WPO_all tt_ok (by kernel_rfl) ?_))
    refine WP_ret ?_
    exact ⟨.s (.bool false), by kernel_rfl, fun nV w' h => ⟨by rw [show passedL = false from by unfold passedL; simp only [hc2, cond_true, cond_false]]; rfl, h.bel⟩⟩
  have hc2' := hc2; try simp only [Bool.and_eq_true, Bool.or_eq_true, Bool.and_eq_false_iff, Bool.or_eq_false_iff, Bool.not_eq_true', Bool.not_eq_false', decide_eq_true_eq, decide_eq_false_iff_not, beq_iff_eq, beq_eq_false_iff_ne, bne_iff_ne, bne_eq_false_iff_eq, ne_eq] at hc2'
  refine WP_skip ?_
  refine WP_seq (WP_region (CALLRS 55 [] (.g [.ref 13, .int .i64 sightedL.hear.lo, .int .i64 sightedL.hear.hi, .int .i64 sightedL.br, .int .i64 sightedL.cr, .int .i64 sightedL.sl, .ref 14]) [⟨65, 5, _, sightedL.ships, encShip, zShip⟩, ⟨70, 4, _, sightedL.sights, encSight, zSight⟩] 13 (by kernel_rfl) (by kernel_rfl) (goes_of (by kernel_rfl)) (by kernel_rfl) (by kernel_rfl) ⟨⟨(Nat.le_of_ble_eq_true rfl), fun _ => rfl⟩, ⟨(Nat.le_of_ble_eq_true rfl), fun _ => rfl⟩, trivial⟩ (fun nV w h => (sightedL_calls   w  ).mono fun e w' ⟨v0, v1, h1, h2, h3, _⟩ => ⟨[v0, v1], h1, h2, h3⟩) ?_))
  refine CALL 42 [.g [.ref 13, .int .i64 sightedL.hear.lo, .int .i64 sightedL.hear.hi, .int .i64 sightedL.br, .int .i64 sightedL.cr, .int .i64 sightedL.sl, .ref 14], .s (.int .i64 4)] (.t [(false, [.int .i64 (nextA sightedL 4).1]), (false, [.int .i64 (nextA sightedL 4).2])]) [] (by kernel_rfl) (goes_of (by kernel_rfl)) (by kernel_rfl) (by kernel_rfl) (fun _ nV w h => nextA_calls (nV 13) (nV 14) sightedL 4 w (h.reads (id := 13) (kd := .ro) (e := 65) (by kernel_rfl)) (h.reads (id := 14) (kd := .ro) (e := 70) (by kernel_rfl)) (h.ents (0, .pf AsksAt (· = 0)) (fnd_mem (by kernel_rfl))).1 ) ?_
  refine WPO_all tt_ok (by kernel_rfl) ?_
  refine WP_seq (WP_region (CALLRS 54 [] (.g [.ref 15, .int .i64 tornL.hear.lo, .int .i64 tornL.hear.hi, .int .i64 tornL.br, .int .i64 tornL.cr, .int .i64 tornL.sl, .ref 16]) [⟨65, 5, _, tornL.ships, encShip, zShip⟩, ⟨70, 4, _, tornL.sights, encSight, zSight⟩] 15 (by kernel_rfl) (by kernel_rfl) (goes_of (by kernel_rfl)) (by kernel_rfl) (by kernel_rfl) ⟨⟨(Nat.le_of_ble_eq_true rfl), fun _ => rfl⟩, ⟨(Nat.le_of_ble_eq_true rfl), fun _ => rfl⟩, trivial⟩ (fun nV w h => (tornL_calls   w  ).mono fun e w' ⟨v0, v1, h1, h2, h3, _⟩ => ⟨[v0, v1], h1, h2, h3⟩) ?_))
  refine CALLR 26 [.g [.ref 15, .int .i64 tornL.hear.lo, .int .i64 tornL.hear.hi, .int .i64 tornL.br, .int .i64 tornL.cr, .int .i64 tornL.sl, .ref 16]] (.t [(false, [.ref 17]), (false, [.int .i64 (wrongA tornL).2])]) 3 1 (wrongA tornL).1 encI 0 17 (by kernel_rfl) (by kernel_rfl) (goes_of (by kernel_rfl)) (by kernel_rfl) (by kernel_rfl) (by decide) (fun _ => rfl) (fun nV w h => (wrongA_calls (nV 15) (nV 16) tornL w (h.reads (id := 15) (kd := .ro) (e := 65) (by kernel_rfl)) (h.reads (id := 16) (kd := .ro) (e := 70) (by kernel_rfl)) ).mono fun e w' h1 => weak_fresh h1) ?_
  refine WPO_all tt_ok (by kernel_rfl) ?_
  refine WP_seq (WP_region (CALLRS 52 [] (.g [.ref 18, .int .i64 ownL.hear.lo, .int .i64 ownL.hear.hi, .int .i64 ownL.br, .int .i64 ownL.cr, .int .i64 ownL.sl, .ref 19]) [⟨65, 5, _, ownL.ships, encShip, zShip⟩, ⟨70, 4, _, ownL.sights, encSight, zSight⟩] 18 (by kernel_rfl) (by kernel_rfl) (goes_of (by kernel_rfl)) (by kernel_rfl) (by kernel_rfl) ⟨⟨(Nat.le_of_ble_eq_true rfl), fun _ => rfl⟩, ⟨(Nat.le_of_ble_eq_true rfl), fun _ => rfl⟩, trivial⟩ (fun nV w h => (ownL_calls   w  ).mono fun e w' ⟨v0, v1, h1, h2, h3, _⟩ => ⟨[v0, v1], h1, h2, h3⟩) ?_))
  refine CALL 25 [.g [.ref 18, .int .i64 ownL.hear.lo, .int .i64 ownL.hear.hi, .int .i64 ownL.br, .int .i64 ownL.cr, .int .i64 ownL.sl, .ref 19]] (.t [(false, [.bool (rightA ownL).1]), (false, [.int .i64 (rightA ownL).2])]) [] (by kernel_rfl) (goes_of (by kernel_rfl)) (by kernel_rfl) (by kernel_rfl) (fun _ nV w h => rightA_calls (nV 18) (nV 19) ownL w (h.reads (id := 18) (kd := .ro) (e := 65) (by kernel_rfl)) (h.reads (id := 19) (kd := .ro) (e := 70) (by kernel_rfl)) ) ?_
  refine WPO_all tt_ok (by kernel_rfl) ?_
  refine WP_seq (WP_region (CALLRS 52 [] (.g [.ref 20, .int .i64 ownL.hear.lo, .int .i64 ownL.hear.hi, .int .i64 ownL.br, .int .i64 ownL.cr, .int .i64 ownL.sl, .ref 21]) [⟨65, 5, _, ownL.ships, encShip, zShip⟩, ⟨70, 4, _, ownL.sights, encSight, zSight⟩] 20 (by kernel_rfl) (by kernel_rfl) (goes_of (by kernel_rfl)) (by kernel_rfl) (by kernel_rfl) ⟨⟨(Nat.le_of_ble_eq_true rfl), fun _ => rfl⟩, ⟨(Nat.le_of_ble_eq_true rfl), fun _ => rfl⟩, trivial⟩ (fun nV w h => (ownL_calls   w  ).mono fun e w' ⟨v0, v1, h1, h2, h3, _⟩ => ⟨[v0, v1], h1, h2, h3⟩) ?_))
  refine CALLR 30 [.g [.ref 20, .int .i64 ownL.hear.lo, .int .i64 ownL.hear.hi, .int .i64 ownL.br, .int .i64 ownL.cr, .int .i64 ownL.sl, .ref 21]] (.t [(false, [.ref 22]), (false, [.int .i64 (freeA ownL).2])]) 3 1 (freeA ownL).1 encI 0 22 (by kernel_rfl) (by kernel_rfl) (goes_of (by kernel_rfl)) (by kernel_rfl) (by kernel_rfl) (by decide) (fun _ => rfl) (fun nV w h => (freeA_calls (nV 20) (nV 21) ownL w (h.reads (id := 20) (kd := .ro) (e := 65) (by kernel_rfl)) (h.reads (id := 21) (kd := .ro) (e := 70) (by kernel_rfl)) (h.ents (0, .pf AsksAt (· = 0)) (fnd_mem (by kernel_rfl))).1 ).mono fun e w' h1 => weak_fresh h1) ?_
  refine WPO_all tt_ok (by kernel_rfl) ?_
  refine WP_seq (WP_region (WPO_run tt_ok 20 (by kernel_rfl) ?_))
  refine LITG tt_ok [(118, true)] (true && (((((((nextA sightedL 4).2 == 0) && ((wrongA tornL).2 == 0)) && ((rightA ownL).2 == 0)) && ((freeA ownL).2 == 0)) && ((nextA sightedL 4).1 == 15)) == true)) 3 1 1 [.int .i64 0] [0] encI 0 (by kernel_rfl) (by kernel_rfl) rfl (fun _ => rfl) (fun n => rfl) (by kernel_rfl) ?_
  refine CALL 65 [.s (.ref 17), .s (.ref 23)] (.s (.bool (alikeF (wrongA tornL).1 (bif (true && (((((((nextA sightedL 4).2 == 0) && ((wrongA tornL).2 == 0)) && ((rightA ownL).2 == 0)) && ((freeA ownL).2 == 0)) && ((nextA sightedL 4).1 == 15)) == true)) then [0] else [])))) [((((((nextA sightedL 4).2 == 0) && ((wrongA tornL).2 == 0)) && ((rightA ownL).2 == 0)) && ((freeA ownL).2 == 0)) && ((nextA sightedL 4).1 == 15), true)] (by kernel_rfl) (goes_of (by kernel_rfl)) (by kernel_rfl) (by kernel_rfl) (fun _ nV w h => alikeF_calls (nV 17) (nV 23) (wrongA tornL).1 (bif (true && (((((((nextA sightedL 4).2 == 0) && ((wrongA tornL).2 == 0)) && ((rightA ownL).2 == 0)) && ((freeA ownL).2 == 0)) && ((nextA sightedL 4).1 == 15)) == true)) then [0] else []) w (h.reads (id := 17) (kd := .ro) (e := 3) (by kernel_rfl)) (h.reads (id := 23) (kd := .own) (e := 3) (by kernel_rfl)) ) ?_
  refine WPO_all tt_ok (by kernel_rfl) ?_
  refine WP_ret ?_
  exact ⟨.s (.bool (((((((((nextA sightedL 4).2 == 0) && ((wrongA tornL).2 == 0)) && ((rightA ownL).2 == 0)) && ((freeA ownL).2 == 0)) && ((nextA sightedL 4).1 == 15)) && (alikeF (wrongA tornL).1 (bif (true && (((((((nextA sightedL 4).2 == 0) && ((wrongA tornL).2 == 0)) && ((rightA ownL).2 == 0)) && ((freeA ownL).2 == 0)) && ((nextA sightedL 4).1 == 15)) == true)) then [0] else []))) && (rightA ownL).1) && (((freeA ownL).1.length : Int) == 47))), by kernel_rfl, fun nV w' h => ⟨by rw [show passedL = (((((((((nextA sightedL 4).2 == 0) && ((wrongA tornL).2 == 0)) && ((rightA ownL).2 == 0)) && ((freeA ownL).2 == 0)) && ((nextA sightedL 4).1 == 15)) && (alikeF (wrongA tornL).1 (bif (true && (((((((nextA sightedL 4).2 == 0) && ((wrongA tornL).2 == 0)) && ((rightA ownL).2 == 0)) && ((freeA ownL).2 == 0)) && ((nextA sightedL 4).1 == 15)) == true)) then [0] else []))) && (rightA ownL).1) && (((freeA ownL).1.length : Int) == 47)) from by unfold passedL; simp only [hc2, cond_true, cond_false]]; rfl, h.bel⟩⟩
end Go.Proofs.YtamimgmoomcipaaDoor.Lw
namespace Go.Proofs.YtamimgmoomcipaaDoor.Lw
open Go Go.Proofs.YtamimgmoomcipaaDoor.Eng Go.Proofs.YtamimgmoomcipaaDoor.Fw Go.Proofs.YtamimgmoomcipaaDoor.Rf
set_option linter.unusedVariables false
set_option linter.unusedSimpArgs false
theorem passed_true : passedL = true := by kernel_rfl
end Go.Proofs.YtamimgmoomcipaaDoor.Lw
namespace Go.Proofs.YtamimgmoomcipaaDoor.Lw
open Go Go.ChangeShapes Go.WideShapes Go.RowKit Go.Proofs.YtamimgmoomcipaaDoor.Eng Go.Proofs.YtamimgmoomcipaaDoor.Fw Go.Proofs.YtamimgmoomcipaaDoor.Rf
set_option linter.unusedVariables false
set_option linter.unusedSimpArgs false
set_option maxRecDepth 100000
theorem app_eq {a b c d : List Value} (h : a = b) (k : c = d) : a ++ c = b ++ d := by rw [h, k]
theorem opn3 {w : World} : Opn Tryd.prog w 3 (fun cs => ∃ (b : Int), cs = [iv b] ∧ i64B b ∧ True) := (Opn_int Tryd.underlying3).mono fun cs ⟨n, h1, h2⟩ => ⟨n, h1, h2, trivial⟩
theorem opn80 {w : World} : Opn Tryd.prog w 80 (fun cs => ∃ (b : Int × Int × Int × Int × Int), cs = [iv b.1, iv b.2.1, iv b.2.2.1, iv b.2.2.2.1, iv b.2.2.2.2] ∧ i64B b.1 ∧ i64B b.2.1 ∧ i64B b.2.2.1 ∧ i64B b.2.2.2.1 ∧ i64B b.2.2.2.2 ∧ True) :=
  (Opn_arr (P := Tryd.prog) (w := w) 1 5 _ Tryd.underlying80 (by kernel_rfl) (by kernel_rfl) opn3).mono fun cs h => by
    obtain ⟨hl, h⟩ := h
    obtain ⟨b0, e0, f0_0, _⟩ := h 0 (by decide)
    obtain ⟨b1, e1, f1_0, _⟩ := h 1 (by decide)
    obtain ⟨b2, e2, f2_0, _⟩ := h 2 (by decide)
    obtain ⟨b3, e3, f3_0, _⟩ := h 3 (by decide)
    obtain ⟨b4, e4, f4_0, _⟩ := h 4 (by decide)
    exact ⟨(b0, b1, b2, b3, b4), (tl 0 1 cs).trans (app_eq e0 ((tl 1 1 cs).trans (app_eq e1 ((tl 2 1 cs).trans (app_eq e2 ((tl 3 1 cs).trans (app_eq e3 ((tl 4 1 cs).trans (app_eq e4 (tlz hl)))))))))), f0_0, f1_0, f2_0, f3_0, f4_0, trivial⟩
theorem own : ownKnob Tryd.prog.godebug = none := by kernel_rfl
theorem laidOut : laidOutB Tryd.prog = true := by kernel_rfl
theorem gAsks : Tryd.prog.globalNamed "prow/fairway.asks" = some 0 := by kernel_rfl
theorem tAsks : (Tryd.prog.globals[0]?).map (·.type) = some 139 := by kernel_rfl
theorem asks_of {W : World} (hS : W.ShapedOpen Tryd.prog) (h : laidMetH Tryd.prog [("prow/fairway.asks", Rows.laid_prow_fairway_asks)] W) : AsksAt W := by
  obtain ⟨g, t, cs, fuel, p, hg, ht, hv, hd⟩ := h.funcs (List.mem_singleton.2 rfl)
  obtain rfl := Option.some.inj (gAsks.symm.trans hg)
  obtain rfl := Option.some.inj (tAsks.symm.trans ht)
  obtain ⟨c, hc, hsz, _⟩ := hS.1 0 #[.nilFunc, .nilFunc] 139 (Nat.le_of_ble_eq_true (by kernel_rfl)) (by kernel_rfl)
  have hcs : ∀ i : Nat, W.cell? ⟨0, i, none⟩ = cs[i]? := fun i => World.var?_cell hg hv i
  have hcc : ∀ i : Nat, W.cell? ⟨0, i, none⟩ = c[i]? := fun i => cell_of_row W 0 _ _ _ _ hc
  have hd' : DataW.trod (funcToken Tryd.prog) Tryd.prog W 0 (fun _ => true) true fuel 139 cs.toList = some (.agg [.held [40, 112, 114, 111, 119, 47, 102, 97, 105, 114, 119, 97, 121, 46, 98, 111, 111, 107, 41, 46, 115, 111, 109, 101], .held [40, 112, 114, 111, 119, 47, 102, 97, 105, 114, 119, 97, 121, 46, 98, 111, 111, 107, 41, 46, 101, 97, 99, 104]], p) := hd
  cases fuel with
  | zero => cases hd'
  | succ n =>
    simp only [DataW.trod, Tryd.underlying139] at hd'
    split at hd'
    · rename_i hl
      obtain ⟨xs, hxs, he⟩ := Option.map_eq_some_iff.1 hd'
      have hl2 : cs.toList.length = 2 := hl.trans (by kernel_rfl)
      have hk : Tryd.prog.cellsOf 138 = 1 := by kernel_rfl
      simp only [Prod.mk.injEq, DataW.agg.injEq] at he
      obtain ⟨y0, hy0, hx0⟩ := mapM_get hxs 0 0 rfl
      obtain ⟨y1, hy1, hx1⟩ := mapM_get hxs 1 1 rfl
      have h0 : y0.1 = .held [40, 112, 114, 111, 119, 47, 102, 97, 105, 114, 119, 97, 121, 46, 98, 111, 111, 107, 41, 46, 115, 111, 109, 101] := by
        have := congrArg (fun l => l[0]?) he.1
        simp only [List.getElem?_map, hx0, Option.map_some] at this
        exact Option.some.inj this
      have h1 : y1.1 = .held [40, 112, 114, 111, 119, 47, 102, 97, 105, 114, 119, 97, 121, 46, 98, 111, 111, 107, 41, 46, 101, 97, 99, 104] := by
        have := congrArg (fun l => l[1]?) he.1
        simp only [List.getElem?_map, hx1, Option.map_some] at this
        exact Option.some.inj this
      rw [hk] at hy0 hy1
      match hcl : cs.toList, hl2 with
      | [u0, u1], _ =>
        rw [hcl] at hy0 hy1
        have hu0 : DataW.trod (funcToken Tryd.prog) Tryd.prog W 0 (fun _ => true) true n 138 [u0] = some (.held [40, 112, 114, 111, 119, 47, 102, 97, 105, 114, 119, 97, 121, 46, 98, 111, 111, 107, 41, 46, 115, 111, 109, 101], y0.2) := by rw [← h0]; exact hy0
        have hu1 : DataW.trod (funcToken Tryd.prog) Tryd.prog W 0 (fun _ => true) true n 138 [u1] = some (.held [40, 112, 114, 111, 119, 47, 102, 97, 105, 114, 119, 97, 121, 46, 98, 111, 111, 107, 41, 46, 101, 97, 99, 104], y1.2) := by rw [← h1]; exact hy1
        obtain rfl := Go.func_of_trod (f0 := 81) Tryd.underlying138 (by kernel_rfl) hu0
        obtain rfl := Go.func_of_trod (f0 := 139) Tryd.underlying138 (by kernel_rfl) hu1
        unfold AsksAt
        rw [hc]
        have e0 := hcc 0
        have e1 := hcc 1
        rw [hcs 0, ← Array.getElem?_toList, hcl] at e0
        rw [hcs 1, ← Array.getElem?_toList, hcl] at e1
        have : c = #[.func (.func 81) #[] #[], .func (.func 139) #[] #[]] := by
          have hs2 : c.size = 2 := hsz
          apply Array.ext
          · rw [hs2]; rfl
          · intro i h1 h2
            rw [hs2] at h1
            have : i = 0 ∨ i = 1 := by omega
            rcases this with rfl | rfl
            · have := e0.symm; rw [Array.getElem?_eq_getElem (by omega)] at this; exact Option.some.inj this
            · have := e1.symm; rw [Array.getElem?_eq_getElem (by omega)] at this; exact Option.some.inj this
        rw [this]
    · cases hd'
end Go.Proofs.YtamimgmoomcipaaDoor.Lw
namespace Go.Proofs.YtamimgmoomcipaaDoor.Lw
open Go Go.Proofs.YtamimgmoomcipaaDoor.Eng Go.Proofs.YtamimgmoomcipaaDoor.Fw Go.Proofs.YtamimgmoomcipaaDoor.Rf
set_option linter.unusedVariables false
set_option linter.unusedSimpArgs false
theorem in_ship {b : Book} {p : Nat} (h : p < b.ships.length) : withinF (p : Int) 0 (b.ships.length - 1) = true := by
  unfold withinF
  rw [decide_eq_true (show (0 : Int) ≤ p by omega), decide_eq_true (show (p : Int) ≤ b.ships.length - 1 by omega)]; rfl
theorem in_min {m : Int} {h : Int} (h0 : 0 ≤ m) (h1 : m ≤ h) : withinF m 0 h = true := by
  unfold withinF
  rw [decide_eq_true h0, decide_eq_true h1]; rfl
theorem err_T {b : Book} (hv : Valid b) (ht : isTrueF b [] = true) : errF b true = 0 := err_ok.2 ⟨hv, rfl, ht⟩
section
variable {b : Book} (hv : Valid b)
include hv
theorem whenA_T (ht : isTrueF b [] = true) {p : Nat} (hp : p < b.ships.length) : whenA b p = if whenL b p = [] then (zSpan, 4) else (⟨(whenL b p).getD 0 0, (whenL b p).getD ((whenL b p).length - 1) 0⟩, 0) := by
  rw [whenA_eq, in_ship hp, err_T hv ht, if_pos rfl, Int.toNat_natCast]
theorem clearA_T (ht : isTrueF b [] = true) {m : Int} (h0 : 0 ≤ m) (h1 : m ≤ 60) : clearA b m = (clearF b [] m, 0) := by
  rw [clearA_eq, in_min h0 h1, err_T hv ht, if_pos rfl]
end
end Go.Proofs.YtamimgmoomcipaaDoor.Lw
namespace Go.Proofs.YtamimgmoomcipaaDoor.Lw
open Go Go.RowKit Go.Proofs.YtamimgmoomcipaaDoor.Eng Go.Proofs.YtamimgmoomcipaaDoor.Fw Go.Proofs.YtamimgmoomcipaaDoor.Rf
set_option linter.unusedVariables false
set_option linter.unusedSimpArgs false
theorem one_first {x y z v br : Int} {k : Nat} (hx : 0 ≤ x ∧ x < 120) (hy : 0 ≤ y ∧ y < 12) (hz : 0 ≤ z ∧ z < 61) (hb : 0 ≤ br) (hv : v = z + k) (hk : k ≤ 121) (h : decide ((IntKind.i64.wrap ((IntKind.i64.wrap (1 + x)) - (IntKind.i64.wrap ((IntKind.i64.wrap (1 + y)) * (IntKind.i64.wrap (v - z)))))) > br) = true) : k < 121 := by
  have h := of_decide_eq_true h
  subst hv
  rw [wrapI (x := 1 + x) (by omega) (by omega), wrapI (x := 1 + y) (by omega) (by omega), wrapI (x := z + k - z) (by omega) (by omega), show z + (k : Int) - z = k by omega] at h
  have h1 := Int.mul_le_mul (show 1 + y ≤ 12 by omega) (show (k : Int) ≤ 121 by omega) (by omega) (by omega)
  have h2 := Int.mul_le_mul (show 1 ≤ 1 + y by omega) (Int.le_refl (k : Int)) (by omega) (by omega)
  rw [wrapI (x := (1 + y) * (k : Int)) (by omega) (by omega), wrapI (by omega) (by omega)] at h
  omega
theorem one_last {x y z v br : Int} {k : Nat} (hx : 0 ≤ x ∧ x < 120) (hy : 0 ≤ y ∧ y < 12) (hz : 0 ≤ z ∧ z < 61) (hb : br ≤ 10) (hv : v = z + k) (hk : k ≤ 131) (h : decide ((IntKind.i64.wrap ((IntKind.i64.wrap ((IntKind.i64.wrap (1 + y)) * (IntKind.i64.wrap ((IntKind.i64.wrap (v + 1)) - z)))) - (IntKind.i64.wrap (1 + x)))) ≤ br) = true) : k < 131 := by
  have h := of_decide_eq_true h
  subst hv
  rw [wrapI (x := 1 + x) (by omega) (by omega), wrapI (x := 1 + y) (by omega) (by omega), wrapI (x := z + k + 1) (by omega) (by omega), wrapI (x := z + k + 1 - z) (by omega) (by omega), show z + (k : Int) + 1 - z = k + 1 by omega] at h
  have h1 := Int.mul_le_mul (show 1 + y ≤ 12 by omega) (show (k : Int) + 1 ≤ 132 by omega) (by omega) (by omega)
  have h2 := Int.mul_le_mul (show 1 ≤ 1 + y by omega) (Int.le_refl ((k : Int) + 1)) (by omega) (by omega)
  rw [wrapI (x := (1 + y) * ((k : Int) + 1)) (by omega) (by omega), wrapI (by omega) (by omega)] at h
  omega
def FairwayOneL_c1 (n : Int × Int × Int × Int × Int) (k1 : Nat) : Int → Bool := fun v1_0 => decide ((IntKind.i64.wrap ((IntKind.i64.wrap (1 + (modF n.2.1 120))) - (IntKind.i64.wrap ((IntKind.i64.wrap (1 + (modF n.2.2.1 12))) * (IntKind.i64.wrap (v1_0 - (modF n.1 61))))))) > (modF n.2.2.2.1 11))
def FairwayOneL_b1 (n : Int × Int × Int × Int × Int) (k1 : Nat) : Int → Bd Int Bool := fun v1_0 => .go (IntKind.i64.wrap (v1_0 + 1))
def FairwayOneL_c2 (n : Int × Int × Int × Int × Int) (u1_0 : Int) (k2 : Nat) : Int → Bool := fun v2_0 => decide ((IntKind.i64.wrap ((IntKind.i64.wrap ((IntKind.i64.wrap (1 + (modF n.2.2.1 12))) * (IntKind.i64.wrap ((IntKind.i64.wrap (v2_0 + 1)) - (modF n.1 61))))) - (IntKind.i64.wrap (1 + (modF n.2.1 120))))) ≤ (modF n.2.2.2.1 11))
def FairwayOneL_b2 (n : Int × Int × Int × Int × Int) (u1_0 : Int) (k2 : Nat) : Int → Bd Int Bool := fun v2_0 => .go (IntKind.i64.wrap (v2_0 + 1))
def FairwayOneL (n : Int × Int × Int × Int × Int) : Bool :=
  (match loopR (FairwayOneL_c1 n) (FairwayOneL_b1 n) 121 0 (modF n.1 61) with | .brk u1_0 => (match loopR (FairwayOneL_c2 n u1_0) (FairwayOneL_b2 n u1_0) 131 0 (modF n.1 61) with | .brk u2_0 => (bif (clearA (⟨[(shipL (modF n.1 61) (pointF (IntKind.i64.wrap (1 + (modF n.2.1 120)))) (pointF (IntKind.i64.wrap (1 + (modF n.2.2.1 12)))))], (pointF 120), (modF n.2.2.2.1 11), 3, 1, []⟩ : Book) (modF n.2.2.2.2 61)).2 != 0 then false else (bif decide (u1_0 > u2_0) then (((whenA (⟨[(shipL (modF n.1 61) (pointF (IntKind.i64.wrap (1 + (modF n.2.1 120)))) (pointF (IntKind.i64.wrap (1 + (modF n.2.2.1 12)))))], (pointF 120), (modF n.2.2.2.1 11), 3, 1, []⟩ : Book) 0).2 == 4) && ((clearA (⟨[(shipL (modF n.1 61) (pointF (IntKind.i64.wrap (1 + (modF n.2.1 120)))) (pointF (IntKind.i64.wrap (1 + (modF n.2.2.1 12)))))], (pointF 120), (modF n.2.2.2.1 11), 3, 1, []⟩ : Book) (modF n.2.2.2.2 61)).1 == 2)) && passedL else ((((whenA (⟨[(shipL (modF n.1 61) (pointF (IntKind.i64.wrap (1 + (modF n.2.1 120)))) (pointF (IntKind.i64.wrap (1 + (modF n.2.2.1 12)))))], (pointF 120), (modF n.2.2.2.1 11), 3, 1, []⟩ : Book) 0).2 == 0) && ((whenA (⟨[(shipL (modF n.1 61) (pointF (IntKind.i64.wrap (1 + (modF n.2.1 120)))) (pointF (IntKind.i64.wrap (1 + (modF n.2.2.1 12)))))], (pointF 120), (modF n.2.2.2.1 11), 3, 1, []⟩ : Book) 0).1.lo == (rangeF u1_0 u2_0).lo && (whenA (⟨[(shipL (modF n.1 61) (pointF (IntKind.i64.wrap (1 + (modF n.2.1 120)))) (pointF (IntKind.i64.wrap (1 + (modF n.2.2.1 12)))))], (pointF 120), (modF n.2.2.2.1 11), 3, 1, []⟩ : Book) 0).1.hi == (rangeF u1_0 u2_0).hi)) && ((clearA (⟨[(shipL (modF n.1 61) (pointF (IntKind.i64.wrap (1 + (modF n.2.1 120)))) (pointF (IntKind.i64.wrap (1 + (modF n.2.2.1 12)))))], (pointF 120), (modF n.2.2.2.1 11), 3, 1, []⟩ : Book) (modF n.2.2.2.2 61)).1 == (bif ((decide ((IntKind.i64.wrap ((modF n.2.2.2.2 61) + 3)) < u1_0)) || (decide ((modF n.2.2.2.2 61) > u2_0))) then 2 else 0))) && passedL)) | .ret r => r) | .ret r => r)
theorem FairwayOneL_calls  (n : Int × Int × Int × Int × Int) (w : World)  (ha : AsksAt w) : Calls Tryd.prog 13 #[.agg #[iv n.1, iv n.2.1, iv n.2.2.1, iv n.2.2.2.1, iv n.2.2.2.2]] w fun e w' => e = .returned (.bool (FairwayOneL n)) ∧ Below w.heap.size w w' := by
  refine calls_of_WP (cx := cx0 w Eng.n0 0) (n := Eng.n0) (vs := [.g [.int .i64 n.1, .int .i64 n.2.1, .int .i64 n.2.2.1, .int .i64 n.2.2.2.1, .int .i64 n.2.2.2.2]]) (hp := [(0, .pf AsksAt (· = 0))]) (nx := 1) tt_ok Tryd.func13 rfl rfl rfl (by kernel_rfl) (HSat_args (fun _ => rfl) (by decide) ⟨⟨⟨ha, fun w1 w2 h1 hw => (hw 0 rfl).trans h1, fun g hg => by cases hg; exact (Array.getElem?_eq_some_iff.1 ha).1⟩, (Nat.le_of_ble_eq_true rfl)⟩, trivial⟩) (vsOk (by kernel_rfl)) ?_
  have hq_1 := modF_in n.1 61 (by omega) (by omega)
  have hq_2 := modF_in n.2.1 120 (by omega) (by omega)
  have hq_3 := modF_in n.2.2.1 12 (by omega) (by omega)
  have hq_4 := modF_in n.2.2.2.1 11 (by omega) (by omega)
  have hq_5 := modF_in n.2.2.2.2 61 (by omega) (by omega)
  refine WP_seq (WP_region (WPO_all tt_ok (by kernel_rfl) ?_))
  refine WP_seq (WP_draw (by kernel_rfl) (by kernel_rfl) ?_)
  refine QAIX tt_ok 0 5 [] (by kernel_rfl) (fun hG => ⟨by omega, by omega⟩) ?_
  refine QARD tt_ok 1 0 1 0 [] 80 [.int .i64 n.1, .int .i64 n.2.1, .int .i64 n.2.2.1, .int .i64 n.2.2.2.1, .int .i64 n.2.2.2.2] (.int .i64 n.1) (by kernel_rfl) (by kernel_rfl) (by kernel_rfl) (fun _ => rfl) ?_
  refine QCALL 24 [.s (.int .i64 n.1), .s (.int .i64 61)] (.s (.int .i64 (modF n.1 61))) [] (by kernel_rfl) (goes_of (by kernel_rfl)) (by kernel_rfl) (by kernel_rfl) (fun _ nV w h => modF_calls  n.1 61 w  ) ?_
  refine QAIX tt_ok 1 5 [] (by kernel_rfl) (fun hG => ⟨by omega, by omega⟩) ?_
  refine QARD tt_ok 1 1 1 0 [] 80 [.int .i64 n.1, .int .i64 n.2.1, .int .i64 n.2.2.1, .int .i64 n.2.2.2.1, .int .i64 n.2.2.2.2] (.int .i64 n.2.1) (by kernel_rfl) (by kernel_rfl) (by kernel_rfl) (fun _ => rfl) ?_
  refine QCALL 24 [.s (.int .i64 n.2.1), .s (.int .i64 120)] (.s (.int .i64 (modF n.2.1 120))) [] (by kernel_rfl) (goes_of (by kernel_rfl)) (by kernel_rfl) (by kernel_rfl) (fun _ nV w h => modF_calls  n.2.1 120 w  ) ?_
  refine WPQ_run tt_ok 1 (by kernel_rfl) ?_
  refine QAIX tt_ok 2 5 [] (by kernel_rfl) (fun hG => ⟨by omega, by omega⟩) ?_
  refine QARD tt_ok 1 2 1 0 [] 80 [.int .i64 n.1, .int .i64 n.2.1, .int .i64 n.2.2.1, .int .i64 n.2.2.2.1, .int .i64 n.2.2.2.2] (.int .i64 n.2.2.1) (by kernel_rfl) (by kernel_rfl) (by kernel_rfl) (fun _ => rfl) ?_
  refine QCALL 24 [.s (.int .i64 n.2.2.1), .s (.int .i64 12)] (.s (.int .i64 (modF n.2.2.1 12))) [] (by kernel_rfl) (goes_of (by kernel_rfl)) (by kernel_rfl) (by kernel_rfl) (fun _ nV w h => modF_calls  n.2.2.1 12 w  ) ?_
  refine WPQ_run tt_ok 1 (by kernel_rfl) ?_
  refine QAIX tt_ok 3 5 [] (by kernel_rfl) (fun hG => ⟨by omega, by omega⟩) ?_
  refine QARD tt_ok 1 3 1 0 [] 80 [.int .i64 n.1, .int .i64 n.2.1, .int .i64 n.2.2.1, .int .i64 n.2.2.2.1, .int .i64 n.2.2.2.2] (.int .i64 n.2.2.2.1) (by kernel_rfl) (by kernel_rfl) (by kernel_rfl) (fun _ => rfl) ?_
  refine QCALL 24 [.s (.int .i64 n.2.2.2.1), .s (.int .i64 11)] (.s (.int .i64 (modF n.2.2.2.1 11))) [] (by kernel_rfl) (goes_of (by kernel_rfl)) (by kernel_rfl) (by kernel_rfl) (fun _ nV w h => modF_calls  n.2.2.2.1 11 w  ) ?_
  refine WPQ_all tt_ok (by kernel_rfl) ?_
  refine WP_seq (WP_region (WPO_run tt_ok 2 (by kernel_rfl) ?_))
  refine CALL 38 [.s (.int .i64 (IntKind.i64.wrap (1 + (modF n.2.1 120))))] (.g [.int .i64 (pointF (IntKind.i64.wrap (1 + (modF n.2.1 120)))).lo, .int .i64 (pointF (IntKind.i64.wrap (1 + (modF n.2.1 120)))).hi]) [] (by kernel_rfl) (goes_of (by kernel_rfl)) (by kernel_rfl) (by kernel_rfl) (fun _ nV w h => pointF_calls  (IntKind.i64.wrap (1 + (modF n.2.1 120))) w  ) ?_
  refine WPO_run tt_ok 1 (by kernel_rfl) ?_
  refine CALL 38 [.s (.int .i64 (IntKind.i64.wrap (1 + (modF n.2.2.1 12))))] (.g [.int .i64 (pointF (IntKind.i64.wrap (1 + (modF n.2.2.1 12)))).lo, .int .i64 (pointF (IntKind.i64.wrap (1 + (modF n.2.2.1 12)))).hi]) [] (by kernel_rfl) (goes_of (by kernel_rfl)) (by kernel_rfl) (by kernel_rfl) (fun _ nV w h => pointF_calls  (IntKind.i64.wrap (1 + (modF n.2.2.1 12))) w  ) ?_
  refine CALL 51 [.s (.int .i64 (modF n.1 61)), .g [.int .i64 (pointF (IntKind.i64.wrap (1 + (modF n.2.1 120)))).lo, .int .i64 (pointF (IntKind.i64.wrap (1 + (modF n.2.1 120)))).hi], .g [.int .i64 (pointF (IntKind.i64.wrap (1 + (modF n.2.2.1 12)))).lo, .int .i64 (pointF (IntKind.i64.wrap (1 + (modF n.2.2.1 12)))).hi]] (.g [.int .i64 (shipL (modF n.1 61) (pointF (IntKind.i64.wrap (1 + (modF n.2.1 120)))) (pointF (IntKind.i64.wrap (1 + (modF n.2.2.1 12))))).m, .int .i64 (shipL (modF n.1 61) (pointF (IntKind.i64.wrap (1 + (modF n.2.1 120)))) (pointF (IntKind.i64.wrap (1 + (modF n.2.2.1 12))))).aw.lo, .int .i64 (shipL (modF n.1 61) (pointF (IntKind.i64.wrap (1 + (modF n.2.1 120)))) (pointF (IntKind.i64.wrap (1 + (modF n.2.2.1 12))))).aw.hi, .int .i64 (shipL (modF n.1 61) (pointF (IntKind.i64.wrap (1 + (modF n.2.1 120)))) (pointF (IntKind.i64.wrap (1 + (modF n.2.2.1 12))))).sp.lo, .int .i64 (shipL (modF n.1 61) (pointF (IntKind.i64.wrap (1 + (modF n.2.1 120)))) (pointF (IntKind.i64.wrap (1 + (modF n.2.2.1 12))))).sp.hi]) [] (by kernel_rfl) (goes_of (by kernel_rfl)) (by kernel_rfl) (by kernel_rfl) (fun _ nV w h => shipL_calls  (modF n.1 61) (pointF (IntKind.i64.wrap (1 + (modF n.2.1 120)))) (pointF (IntKind.i64.wrap (1 + (modF n.2.2.1 12)))) w  ) ?_
  refine LIT tt_ok (by kernel_rfl) ?_
  refine LITSL 2 65 1 5 [.int .i64 (shipL (modF n.1 61) (pointF (IntKind.i64.wrap (1 + (modF n.2.1 120)))) (pointF (IntKind.i64.wrap (1 + (modF n.2.2.1 12))))).m, .int .i64 (shipL (modF n.1 61) (pointF (IntKind.i64.wrap (1 + (modF n.2.1 120)))) (pointF (IntKind.i64.wrap (1 + (modF n.2.2.1 12))))).aw.lo, .int .i64 (shipL (modF n.1 61) (pointF (IntKind.i64.wrap (1 + (modF n.2.1 120)))) (pointF (IntKind.i64.wrap (1 + (modF n.2.2.1 12))))).aw.hi, .int .i64 (shipL (modF n.1 61) (pointF (IntKind.i64.wrap (1 + (modF n.2.1 120)))) (pointF (IntKind.i64.wrap (1 + (modF n.2.2.1 12))))).sp.lo, .int .i64 (shipL (modF n.1 61) (pointF (IntKind.i64.wrap (1 + (modF n.2.1 120)))) (pointF (IntKind.i64.wrap (1 + (modF n.2.2.1 12))))).sp.hi] [(shipL (modF n.1 61) (pointF (IntKind.i64.wrap (1 + (modF n.2.1 120)))) (pointF (IntKind.i64.wrap (1 + (modF n.2.2.1 12)))))] encShip zShip (by kernel_rfl) rfl (fun _ => rfl) (fun n => rfl) ?_
  refine CALL 38 [.s (.int .i64 120)] (.g [.int .i64 (pointF 120).lo, .int .i64 (pointF 120).hi]) [] (by kernel_rfl) (goes_of (by kernel_rfl)) (by kernel_rfl) (by kernel_rfl) (fun _ nV w h => pointF_calls  120 w  ) ?_
  refine WPO_all tt_ok (by kernel_rfl) ?_
  refine WP_seq (WP_region (AIX tt_ok 4 5 [] (by kernel_rfl) (fun hG => ⟨by omega, by omega⟩) ?_))
  refine ARD tt_ok 1 4 1 0 [] 80 [.int .i64 n.1, .int .i64 n.2.1, .int .i64 n.2.2.1, .int .i64 n.2.2.2.1, .int .i64 n.2.2.2.2] (.int .i64 n.2.2.2.2) (by kernel_rfl) (by kernel_rfl) (by kernel_rfl) (fun _ => rfl) ?_
  refine CALL 24 [.s (.int .i64 n.2.2.2.2), .s (.int .i64 61)] (.s (.int .i64 (modF n.2.2.2.2 61))) [] (by kernel_rfl) (goes_of (by kernel_rfl)) (by kernel_rfl) (by kernel_rfl) (fun _ nV w h => modF_calls  n.2.2.2.2 61 w  ) ?_
  refine WPO_all tt_ok (by kernel_rfl) ?_
  refine WP_seq (WP_region (WPO_all tt_ok (by kernel_rfl) ?_))
  refine WP_seq (WP_loopA (ρ := Bool) (FairwayOneL_c1 n) (FairwayOneL_b1 n) 121 (modF n.1 61) (fun k : Nat => (k : Int)) (fun (ci : Int) (zz : Int) => ⟨119, [(10, [], .s (.int .i64 (modF n.1 61))), (9, [], .s (.int .i64 zz)), (8, [], .s (.int .i64 (modF n.2.2.2.2 61))), (7, [], .s (.p 3 0)), (6, [], .s (.int .i64 (modF n.2.2.2.1 11))), (5, [], .s (.int .i64 (IntKind.i64.wrap (1 + (modF n.2.2.1 12))))), (4, [], .s (.int .i64 (IntKind.i64.wrap (1 + (modF n.2.1 120))))), (3, [], .s (.int .i64 (modF n.1 61)))], [(3, .box 27 [.ref 2, .int .i64 (pointF 120).lo, .int .i64 (pointF 120).hi, .int .i64 (modF n.2.2.2.1 11), .int .i64 3, .int .i64 1, .v (.slice none 0 0)]), (2, .sl .own 65 5 ([(shipL (modF n.1 61) (pointF (IntKind.i64.wrap (1 + (modF n.2.1 120)))) (pointF (IntKind.i64.wrap (1 + (modF n.2.2.1 12)))))]) encShip zShip), (1, .box 80 [.int .i64 n.1, .int .i64 n.2.1, .int .i64 n.2.2.1, .int .i64 n.2.2.2.1, .int .i64 n.2.2.2.2]), (0, .pf AsksAt (· = 0))], 4, []⟩) (fun zz : Int => ⟨119, [(10, [], .s (.int .i64 (modF n.1 61))), (9, [], .s (.int .i64 zz)), (8, [], .s (.int .i64 (modF n.2.2.2.2 61))), (7, [], .s (.p 3 0)), (6, [], .s (.int .i64 (modF n.2.2.2.1 11))), (5, [], .s (.int .i64 (IntKind.i64.wrap (1 + (modF n.2.2.1 12))))), (4, [], .s (.int .i64 (IntKind.i64.wrap (1 + (modF n.2.1 120))))), (3, [], .s (.int .i64 (modF n.1 61)))], [(3, .box 27 [.ref 2, .int .i64 (pointF 120).lo, .int .i64 (pointF 120).hi, .int .i64 (modF n.2.2.2.1 11), .int .i64 3, .int .i64 1, .v (.slice none 0 0)]), (2, .sl .own 65 5 ([(shipL (modF n.1 61) (pointF (IntKind.i64.wrap (1 + (modF n.2.1 120)))) (pointF (IntKind.i64.wrap (1 + (modF n.2.2.1 12)))))]) encShip zShip), (1, .box 80 [.int .i64 n.1, .int .i64 n.2.1, .int .i64 n.2.2.1, .int .i64 n.2.2.2.1, .int .i64 n.2.2.2.2]), (0, .pf AsksAt (· = 0))], 4, []⟩) (fun (k1 : Nat) (zz : Int) => zz = modF n.1 61 + k1) (by simp) ⟨0, rfl, Le_sel (ts := [10, 9, 8, 7, 6, 5, 4, 3]) (ids := [3, 2, 1, 0]) (nx := 4) (by kernel_rfl)⟩ ?_ ?_)
  · intro k1 v1_0 hn1 hp1 hi1 Q1 hq1 ho1
    replace hp1 : v1_0 = modF n.1 61 + k1 := hp1
    refine WP_seq (WP_seq (WP_region (WPO_all tt_ok (by kernel_rfl) ?_)))
    refine WP_cond (decide ((IntKind.i64.wrap ((IntKind.i64.wrap (1 + (modF n.2.1 120))) - (IntKind.i64.wrap ((IntKind.i64.wrap (1 + (modF n.2.2.1 12))) * (IntKind.i64.wrap (v1_0 - (modF n.1 61))))))) > (modF n.2.2.2.1 11))) (by kernel_rfl) (fun hc1 => ?_) (fun hc1 => ?_)
    rotate_left
    · refine WP_exit ?_
      show Q1 (.exit 0) _
      exact LA_exit hq1 v1_0 (loopR_end hi1 hc1) ⟨k1, hn1, hp1⟩ (Le_sel (ts := [10, 9, 8, 7, 6, 5, 4, 3]) (ids := [3, 2, 1, 0]) (nx := 4) (by kernel_rfl))
    have hc1' := of_decide_eq_true hc1
    have hk1 : k1 < 121 := by exact one_first hq_2 hq_3 hq_1 hq_4.1 (by assumption) (by omega) (decide_eq_true hc1')
    refine WP_skip ?_
    refine WP_block ?_
    refine WP_region (WPO_all tt_ok (by kernel_rfl) ?_)
    show Q1 .normal _
    exact LA_go hq1 (ci := ((k1 + 1) : Int)) (IntKind.i64.wrap (v1_0 + 1)) hk1 (rfl) (loopR_go hi1 hk1 hc1 (rfl)) (by rw [wrapI (by omega) (by omega)]; omega) (Le_sel (ts := [10, 9, 8, 7, 6, 5, 4, 3]) (ids := [3, 2, 1, 0]) (nx := 4) (by kernel_rfl))
  intro u1_0 hR1 hP1 s' hl
  obtain ⟨kP1, hkP1, hpP1⟩ := hP1
  replace hpP1 : u1_0 = modF n.1 61 + kP1 := hpP1
  refine WP_le hl ?_
  clear hl s'
  refine WP_seq (WP_loopA (ρ := Bool) (FairwayOneL_c2 n u1_0) (FairwayOneL_b2 n u1_0) 131 (modF n.1 61) (fun k : Nat => (k : Int)) (fun (ci : Int) (zz : Int) => ⟨119, [(10, [], .s (.int .i64 zz)), (9, [], .s (.int .i64 u1_0)), (8, [], .s (.int .i64 (modF n.2.2.2.2 61))), (7, [], .s (.p 3 0)), (6, [], .s (.int .i64 (modF n.2.2.2.1 11))), (5, [], .s (.int .i64 (IntKind.i64.wrap (1 + (modF n.2.2.1 12))))), (4, [], .s (.int .i64 (IntKind.i64.wrap (1 + (modF n.2.1 120))))), (3, [], .s (.int .i64 (modF n.1 61)))], [(3, .box 27 [.ref 2, .int .i64 (pointF 120).lo, .int .i64 (pointF 120).hi, .int .i64 (modF n.2.2.2.1 11), .int .i64 3, .int .i64 1, .v (.slice none 0 0)]), (2, .sl .own 65 5 ([(shipL (modF n.1 61) (pointF (IntKind.i64.wrap (1 + (modF n.2.1 120)))) (pointF (IntKind.i64.wrap (1 + (modF n.2.2.1 12)))))]) encShip zShip), (1, .box 80 [.int .i64 n.1, .int .i64 n.2.1, .int .i64 n.2.2.1, .int .i64 n.2.2.2.1, .int .i64 n.2.2.2.2]), (0, .pf AsksAt (· = 0))], 4, []⟩) (fun zz : Int => ⟨119, [(10, [], .s (.int .i64 zz)), (9, [], .s (.int .i64 u1_0)), (8, [], .s (.int .i64 (modF n.2.2.2.2 61))), (7, [], .s (.p 3 0))], [(3, .box 27 [.ref 2, .int .i64 (pointF 120).lo, .int .i64 (pointF 120).hi, .int .i64 (modF n.2.2.2.1 11), .int .i64 3, .int .i64 1, .v (.slice none 0 0)]), (2, .sl .own 65 5 ([(shipL (modF n.1 61) (pointF (IntKind.i64.wrap (1 + (modF n.2.1 120)))) (pointF (IntKind.i64.wrap (1 + (modF n.2.2.1 12)))))]) encShip zShip), (1, .box 80 [.int .i64 n.1, .int .i64 n.2.1, .int .i64 n.2.2.1, .int .i64 n.2.2.2.1, .int .i64 n.2.2.2.2]), (0, .pf AsksAt (· = 0))], 4, []⟩) (fun (k2 : Nat) (zz : Int) => zz = modF n.1 61 + k2) (by simp) ⟨0, rfl, Le_sel (ts := [10, 9, 8, 7, 6, 5, 4, 3]) (ids := [3, 2, 1, 0]) (nx := 4) (by kernel_rfl)⟩ ?_ ?_)
  · intro k2 v2_0 hn2 hp2 hi2 Q2 hq2 ho2
    replace hp2 : v2_0 = modF n.1 61 + k2 := hp2
    refine WP_seq (WP_seq (WP_region (WPO_all tt_ok (by kernel_rfl) ?_)))
    refine WP_cond (decide ((IntKind.i64.wrap ((IntKind.i64.wrap ((IntKind.i64.wrap (1 + (modF n.2.2.1 12))) * (IntKind.i64.wrap ((IntKind.i64.wrap (v2_0 + 1)) - (modF n.1 61))))) - (IntKind.i64.wrap (1 + (modF n.2.1 120))))) ≤ (modF n.2.2.2.1 11))) (by kernel_rfl) (fun hc2 => ?_) (fun hc2 => ?_)
    rotate_left
    · refine WP_exit ?_
      show Q2 (.exit 2) _
      exact LA_exit hq2 v2_0 (loopR_end hi2 hc2) ⟨k2, hn2, hp2⟩ (Le_sel (ts := [10, 9, 8, 7]) (ids := [3, 2, 1, 0]) (nx := 4) (by kernel_rfl))
    have hc2' := of_decide_eq_true hc2
    have hk2 : k2 < 131 := by exact one_last hq_2 hq_3 hq_1 (by omega) (by assumption) (by omega) (decide_eq_true hc2')
    refine WP_skip ?_
    refine WP_block ?_
    refine WP_region (WPO_all tt_ok (by kernel_rfl) ?_)
    show Q2 .normal _
    exact LA_go hq2 (ci := ((k2 + 1) : Int)) (IntKind.i64.wrap (v2_0 + 1)) hk2 (rfl) (loopR_go hi2 hk2 hc2 (rfl)) (by rw [wrapI (by omega) (by omega)]; omega) (Le_sel (ts := [10, 9, 8, 7, 6, 5, 4, 3]) (ids := [3, 2, 1, 0]) (nx := 4) (by kernel_rfl))
  intro u2_0 hR2 hP2 s' hl
  obtain ⟨kP2, hkP2, hpP2⟩ := hP2
  replace hpP2 : u2_0 = modF n.1 61 + kP2 := hpP2
  refine WP_le hl ?_
  clear hl s'
  refine WP_seq (WP_region (WPO_run tt_ok 1 (by kernel_rfl) ?_))
  refine CALL 36 [.g [.ref 2, .int .i64 (pointF 120).lo, .int .i64 (pointF 120).hi, .int .i64 (modF n.2.2.2.1 11), .int .i64 3, .int .i64 1, .v (.slice none 0 0)], .s (.int .i64 0)] (.t [(true, [.int .i64 (whenA (⟨[(shipL (modF n.1 61) (pointF (IntKind.i64.wrap (1 + (modF n.2.1 120)))) (pointF (IntKind.i64.wrap (1 + (modF n.2.2.1 12)))))], (pointF 120), (modF n.2.2.2.1 11), 3, 1, []⟩ : Book) 0).1.lo, .int .i64 (whenA (⟨[(shipL (modF n.1 61) (pointF (IntKind.i64.wrap (1 + (modF n.2.1 120)))) (pointF (IntKind.i64.wrap (1 + (modF n.2.2.1 12)))))], (pointF 120), (modF n.2.2.2.1 11), 3, 1, []⟩ : Book) 0).1.hi]), (false, [.int .i64 (whenA (⟨[(shipL (modF n.1 61) (pointF (IntKind.i64.wrap (1 + (modF n.2.1 120)))) (pointF (IntKind.i64.wrap (1 + (modF n.2.2.1 12)))))], (pointF 120), (modF n.2.2.2.1 11), 3, 1, []⟩ : Book) 0).2])]) [] (by kernel_rfl) (goes_of (by kernel_rfl)) (by kernel_rfl) (by kernel_rfl) (fun _ nV w h => whenA_calls (nV 2) (.slice none 0 0) (⟨[(shipL (modF n.1 61) (pointF (IntKind.i64.wrap (1 + (modF n.2.1 120)))) (pointF (IntKind.i64.wrap (1 + (modF n.2.2.1 12)))))], (pointF 120), (modF n.2.2.2.1 11), 3, 1, []⟩ : Book) 0 w (h.reads (id := 2) (kd := .own) (e := 65) (by kernel_rfl)) reads_nil (h.ents (0, .pf AsksAt (· = 0)) (fnd_mem (by kernel_rfl))).1 ) ?_
  refine WPO_all tt_ok (by kernel_rfl) ?_
  refine WP_seq (WP_region (WPO_run tt_ok 2 (by kernel_rfl) ?_))
  refine CALL 28 [.g [.ref 2, .int .i64 (pointF 120).lo, .int .i64 (pointF 120).hi, .int .i64 (modF n.2.2.2.1 11), .int .i64 3, .int .i64 1, .v (.slice none 0 0)], .s (.int .i64 (modF n.2.2.2.2 61))] (.t [(false, [.int .i64 (clearA (⟨[(shipL (modF n.1 61) (pointF (IntKind.i64.wrap (1 + (modF n.2.1 120)))) (pointF (IntKind.i64.wrap (1 + (modF n.2.2.1 12)))))], (pointF 120), (modF n.2.2.2.1 11), 3, 1, []⟩ : Book) (modF n.2.2.2.2 61)).1]), (false, [.int .i64 (clearA (⟨[(shipL (modF n.1 61) (pointF (IntKind.i64.wrap (1 + (modF n.2.1 120)))) (pointF (IntKind.i64.wrap (1 + (modF n.2.2.1 12)))))], (pointF 120), (modF n.2.2.2.1 11), 3, 1, []⟩ : Book) (modF n.2.2.2.2 61)).2])]) [] (by kernel_rfl) (goes_of (by kernel_rfl)) (by kernel_rfl) (by kernel_rfl) (fun _ nV w h => clearA_calls (nV 2) (.slice none 0 0) (⟨[(shipL (modF n.1 61) (pointF (IntKind.i64.wrap (1 + (modF n.2.1 120)))) (pointF (IntKind.i64.wrap (1 + (modF n.2.2.1 12)))))], (pointF 120), (modF n.2.2.2.1 11), 3, 1, []⟩ : Book) (modF n.2.2.2.2 61) w (h.reads (id := 2) (kd := .own) (e := 65) (by kernel_rfl)) reads_nil (h.ents (0, .pf AsksAt (· = 0)) (fnd_mem (by kernel_rfl))).1 ) ?_
  refine WPO_all tt_ok (by kernel_rfl) ?_
  refine WP_seq (WP_seq (WP_region (WPO_all tt_ok (by kernel_rfl) ?_)))
  refine WP_cond ((clearA (⟨[(shipL (modF n.1 61) (pointF (IntKind.i64.wrap (1 + (modF n.2.1 120)))) (pointF (IntKind.i64.wrap (1 + (modF n.2.2.1 12)))))], (pointF 120), (modF n.2.2.2.1 11), 3, 1, []⟩ : Book) (modF n.2.2.2.2 61)).2 != 0) (by kernel_rfl) (fun hc4 => ?_) (fun hc4 => ?_)
  · have hc4' := hc4; try simp only [Bool.and_eq_true, Bool.or_eq_true, Bool.and_eq_false_iff, Bool.or_eq_false_iff, Bool.not_eq_true', Bool.not_eq_false', decide_eq_true_eq, decide_eq_false_iff_not, beq_iff_eq, beq_eq_false_iff_ne, bne_iff_ne, bne_eq_false_iff_eq, ne_eq] at hc4'
    refine WP_seq (WP_region (WPO_all tt_ok (by kernel_rfl) ?_))
    refine WP_ret ?_
    exact ⟨.s (.bool false), by kernel_rfl, fun nV w' h => ⟨by rw [show FairwayOneL n = false from by unfold FairwayOneL; simp only [hR1, hR2, hc4, cond_true, cond_false]]; rfl, h.bel⟩⟩
  have hc4' := hc4; try simp only [Bool.and_eq_true, Bool.or_eq_true, Bool.and_eq_false_iff, Bool.or_eq_false_iff, Bool.not_eq_true', Bool.not_eq_false', decide_eq_true_eq, decide_eq_false_iff_not, beq_iff_eq, beq_eq_false_iff_ne, bne_iff_ne, bne_eq_false_iff_eq, ne_eq] at hc4'
  refine WP_skip ?_
  refine WP_seq (WP_seq (WP_region (WPO_all tt_ok (by kernel_rfl) ?_)))
  refine WP_cond (decide (u1_0 > u2_0)) (by kernel_rfl) (fun hc6 => ?_) (fun hc6 => ?_)
  · have hc6' := of_decide_eq_true hc6
    refine WP_seq (WP_region (WPO_run tt_ok 7 (by kernel_rfl) ?_))
    refine CALL 18 [] (.s (.bool passedL)) [(((whenA (⟨[(shipL (modF n.1 61) (pointF (IntKind.i64.wrap (1 + (modF n.2.1 120)))) (pointF (IntKind.i64.wrap (1 + (modF n.2.2.1 12)))))], (pointF 120), (modF n.2.2.2.1 11), 3, 1, []⟩ : Book) 0).2 == 4) && ((clearA (⟨[(shipL (modF n.1 61) (pointF (IntKind.i64.wrap (1 + (modF n.2.1 120)))) (pointF (IntKind.i64.wrap (1 + (modF n.2.2.1 12)))))], (pointF 120), (modF n.2.2.2.1 11), 3, 1, []⟩ : Book) (modF n.2.2.2.2 61)).1 == 2), true)] (by kernel_rfl) (goes_of (by kernel_rfl)) (by kernel_rfl) (by kernel_rfl) (fun _ nV w h => passedL_calls   w (h.ents (0, .pf AsksAt (· = 0)) (fnd_mem (by kernel_rfl))).1 ) ?_
    refine WPO_all tt_ok (by kernel_rfl) ?_
    refine WP_ret ?_
    exact ⟨.s (.bool ((((whenA (⟨[(shipL (modF n.1 61) (pointF (IntKind.i64.wrap (1 + (modF n.2.1 120)))) (pointF (IntKind.i64.wrap (1 + (modF n.2.2.1 12)))))], (pointF 120), (modF n.2.2.2.1 11), 3, 1, []⟩ : Book) 0).2 == 4) && ((clearA (⟨[(shipL (modF n.1 61) (pointF (IntKind.i64.wrap (1 + (modF n.2.1 120)))) (pointF (IntKind.i64.wrap (1 + (modF n.2.2.1 12)))))], (pointF 120), (modF n.2.2.2.1 11), 3, 1, []⟩ : Book) (modF n.2.2.2.2 61)).1 == 2)) && passedL)), by kernel_rfl, fun nV w' h => ⟨by rw [show FairwayOneL n = ((((whenA (⟨[(shipL (modF n.1 61) (pointF (IntKind.i64.wrap (1 + (modF n.2.1 120)))) (pointF (IntKind.i64.wrap (1 + (modF n.2.2.1 12)))))], (pointF 120), (modF n.2.2.2.1 11), 3, 1, []⟩ : Book) 0).2 == 4) && ((clearA (⟨[(shipL (modF n.1 61) (pointF (IntKind.i64.wrap (1 + (modF n.2.1 120)))) (pointF (IntKind.i64.wrap (1 + (modF n.2.2.1 12)))))], (pointF 120), (modF n.2.2.2.1 11), 3, 1, []⟩ : Book) (modF n.2.2.2.2 61)).1 == 2)) && passedL) from by unfold FairwayOneL; simp only [hR1, hR2, hc4, hc6, cond_true, cond_false]]; rfl, h.bel⟩⟩
  have hc6' := of_decide_eq_false hc6
  refine WP_skip ?_
  refine WP_seq (WP_region (WPO_all tt_ok (by kernel_rfl) ?_))
  refine WP_seq (WP_seq (WP_region (WPO_all tt_ok (by kernel_rfl) ?_)))
  refine WP_join ((decide ((IntKind.i64.wrap ((modF n.2.2.2.2 61) + 3)) < u1_0)) || (decide ((modF n.2.2.2.2 61) > u2_0))) (fun q => ⟨119, [(15, [], .s (.int .i64 (bif q then 2 else 0))), (13, [], .s (.int .i64 (clearA (⟨[(shipL (modF n.1 61) (pointF (IntKind.i64.wrap (1 + (modF n.2.1 120)))) (pointF (IntKind.i64.wrap (1 + (modF n.2.2.1 12)))))], (pointF 120), (modF n.2.2.2.1 11), 3, 1, []⟩ : Book) (modF n.2.2.2.2 61)).1)), (12, [], .s (.int .i64 (whenA (⟨[(shipL (modF n.1 61) (pointF (IntKind.i64.wrap (1 + (modF n.2.1 120)))) (pointF (IntKind.i64.wrap (1 + (modF n.2.2.1 12)))))], (pointF 120), (modF n.2.2.2.1 11), 3, 1, []⟩ : Book) 0).2)), (11, [], .s (.p 4 0)), (10, [], .s (.int .i64 u2_0)), (9, [], .s (.int .i64 u1_0))], [(4, .box 24 [.int .i64 (whenA (⟨[(shipL (modF n.1 61) (pointF (IntKind.i64.wrap (1 + (modF n.2.1 120)))) (pointF (IntKind.i64.wrap (1 + (modF n.2.2.1 12)))))], (pointF 120), (modF n.2.2.2.1 11), 3, 1, []⟩ : Book) 0).1.lo, .int .i64 (whenA (⟨[(shipL (modF n.1 61) (pointF (IntKind.i64.wrap (1 + (modF n.2.1 120)))) (pointF (IntKind.i64.wrap (1 + (modF n.2.2.1 12)))))], (pointF 120), (modF n.2.2.2.1 11), 3, 1, []⟩ : Book) 0).1.hi]), (3, .box 27 [.ref 2, .int .i64 (pointF 120).lo, .int .i64 (pointF 120).hi, .int .i64 (modF n.2.2.2.1 11), .int .i64 3, .int .i64 1, .v (.slice none 0 0)]), (2, .sl .own 65 5 ([(shipL (modF n.1 61) (pointF (IntKind.i64.wrap (1 + (modF n.2.1 120)))) (pointF (IntKind.i64.wrap (1 + (modF n.2.2.1 12)))))]) encShip zShip), (1, .box 80 [.int .i64 n.1, .int .i64 n.2.1, .int .i64 n.2.2.1, .int .i64 n.2.2.2.1, .int .i64 n.2.2.2.2]), (0, .pf AsksAt (· = 0))], 5, []⟩) (by kernel_rfl) (fun hc8 => ?_) (fun hc8 => ?_) ?_
  · have hc8' := hc8; try simp only [Bool.and_eq_true, Bool.or_eq_true, Bool.and_eq_false_iff, Bool.or_eq_false_iff, Bool.not_eq_true', Bool.not_eq_false', decide_eq_true_eq, decide_eq_false_iff_not, beq_iff_eq, beq_eq_false_iff_ne, bne_iff_ne, bne_eq_false_iff_eq, ne_eq] at hc8'
    refine WP_region (WPO_all tt_ok (by kernel_rfl) ?_)
    exact Le_sel (ts := [15, 13, 12, 11, 10, 9]) (ids := [4, 3, 2, 1, 0]) (nx := 5) (by kernel_rfl)
  · have hc8' := hc8; try simp only [Bool.and_eq_true, Bool.or_eq_true, Bool.and_eq_false_iff, Bool.or_eq_false_iff, Bool.not_eq_true', Bool.not_eq_false', decide_eq_true_eq, decide_eq_false_iff_not, beq_iff_eq, beq_eq_false_iff_ne, bne_iff_ne, bne_eq_false_iff_eq, ne_eq] at hc8'
    refine WP_skip ?_
    exact Le_sel (ts := [15, 13, 12, 11, 10, 9]) (ids := [4, 3, 2, 1, 0]) (nx := 5) (by kernel_rfl)
  refine WP_seq (WP_draw (by kernel_rfl) (by kernel_rfl) ?_)
  refine WPQ_run tt_ok 6 (by kernel_rfl) ?_
  refine QCALL 41 [.s (.int .i64 u1_0), .s (.int .i64 u2_0)] (.g [.int .i64 (rangeF u1_0 u2_0).lo, .int .i64 (rangeF u1_0 u2_0).hi]) [((whenA (⟨[(shipL (modF n.1 61) (pointF (IntKind.i64.wrap (1 + (modF n.2.1 120)))) (pointF (IntKind.i64.wrap (1 + (modF n.2.2.1 12)))))], (pointF 120), (modF n.2.2.2.1 11), 3, 1, []⟩ : Book) 0).2 == 0, true)] (by kernel_rfl) (goes_of (by kernel_rfl)) (by kernel_rfl) (by kernel_rfl) (fun _ nV w h => rangeF_calls  u1_0 u2_0 w  ) ?_
  refine QBIN .eql 24 (.tmp 105) (.tmp 108) (.g [.int .i64 (whenA (⟨[(shipL (modF n.1 61) (pointF (IntKind.i64.wrap (1 + (modF n.2.1 120)))) (pointF (IntKind.i64.wrap (1 + (modF n.2.2.1 12)))))], (pointF 120), (modF n.2.2.2.1 11), 3, 1, []⟩ : Book) 0).1.lo, .int .i64 (whenA (⟨[(shipL (modF n.1 61) (pointF (IntKind.i64.wrap (1 + (modF n.2.1 120)))) (pointF (IntKind.i64.wrap (1 + (modF n.2.2.1 12)))))], (pointF 120), (modF n.2.2.2.1 11), 3, 1, []⟩ : Book) 0).1.hi]) (.g [.int .i64 (rangeF u1_0 u2_0).lo, .int .i64 (rangeF u1_0 u2_0).hi]) (.s (.bool ((whenA (⟨[(shipL (modF n.1 61) (pointF (IntKind.i64.wrap (1 + (modF n.2.1 120)))) (pointF (IntKind.i64.wrap (1 + (modF n.2.2.1 12)))))], (pointF 120), (modF n.2.2.2.1 11), 3, 1, []⟩ : Book) 0).1.lo == (rangeF u1_0 u2_0).lo && (whenA (⟨[(shipL (modF n.1 61) (pointF (IntKind.i64.wrap (1 + (modF n.2.1 120)))) (pointF (IntKind.i64.wrap (1 + (modF n.2.2.1 12)))))], (pointF 120), (modF n.2.2.2.1 11), 3, 1, []⟩ : Book) 0).1.hi == (rangeF u1_0 u2_0).hi))) [((whenA (⟨[(shipL (modF n.1 61) (pointF (IntKind.i64.wrap (1 + (modF n.2.1 120)))) (pointF (IntKind.i64.wrap (1 + (modF n.2.2.1 12)))))], (pointF 120), (modF n.2.2.2.1 11), 3, 1, []⟩ : Book) 0).2 == 0, true)] (by kernel_rfl) (by kernel_rfl) (by kernel_rfl) (fun _ => BinOk_pair (by kernel_rfl) _ _ _ _) ?_
  refine WPQ_run tt_ok 7 (by kernel_rfl) ?_
  refine QCALL 18 [] (.s (.bool passedL)) [((((whenA (⟨[(shipL (modF n.1 61) (pointF (IntKind.i64.wrap (1 + (modF n.2.1 120)))) (pointF (IntKind.i64.wrap (1 + (modF n.2.2.1 12)))))], (pointF 120), (modF n.2.2.2.1 11), 3, 1, []⟩ : Book) 0).2 == 0) && ((whenA (⟨[(shipL (modF n.1 61) (pointF (IntKind.i64.wrap (1 + (modF n.2.1 120)))) (pointF (IntKind.i64.wrap (1 + (modF n.2.2.1 12)))))], (pointF 120), (modF n.2.2.2.1 11), 3, 1, []⟩ : Book) 0).1.lo == (rangeF u1_0 u2_0).lo && (whenA (⟨[(shipL (modF n.1 61) (pointF (IntKind.i64.wrap (1 + (modF n.2.1 120)))) (pointF (IntKind.i64.wrap (1 + (modF n.2.2.1 12)))))], (pointF 120), (modF n.2.2.2.1 11), 3, 1, []⟩ : Book) 0).1.hi == (rangeF u1_0 u2_0).hi)) && ((clearA (⟨[(shipL (modF n.1 61) (pointF (IntKind.i64.wrap (1 + (modF n.2.1 120)))) (pointF (IntKind.i64.wrap (1 + (modF n.2.2.1 12)))))], (pointF 120), (modF n.2.2.2.1 11), 3, 1, []⟩ : Book) (modF n.2.2.2.2 61)).1 == (bif ((decide ((IntKind.i64.wrap ((modF n.2.2.2.2 61) + 3)) < u1_0)) || (decide ((modF n.2.2.2.2 61) > u2_0))) then 2 else 0)), true)] (by kernel_rfl) (goes_of (by kernel_rfl)) (by kernel_rfl) (by kernel_rfl) (fun _ nV w h => passedL_calls   w (h.ents (0, .pf AsksAt (· = 0)) (fnd_mem (by kernel_rfl))).1 ) ?_
  refine WPQ_all tt_ok (by kernel_rfl) ?_
  refine WP_ret ?_
  exact ⟨.s (.bool (((((whenA (⟨[(shipL (modF n.1 61) (pointF (IntKind.i64.wrap (1 + (modF n.2.1 120)))) (pointF (IntKind.i64.wrap (1 + (modF n.2.2.1 12)))))], (pointF 120), (modF n.2.2.2.1 11), 3, 1, []⟩ : Book) 0).2 == 0) && ((whenA (⟨[(shipL (modF n.1 61) (pointF (IntKind.i64.wrap (1 + (modF n.2.1 120)))) (pointF (IntKind.i64.wrap (1 + (modF n.2.2.1 12)))))], (pointF 120), (modF n.2.2.2.1 11), 3, 1, []⟩ : Book) 0).1.lo == (rangeF u1_0 u2_0).lo && (whenA (⟨[(shipL (modF n.1 61) (pointF (IntKind.i64.wrap (1 + (modF n.2.1 120)))) (pointF (IntKind.i64.wrap (1 + (modF n.2.2.1 12)))))], (pointF 120), (modF n.2.2.2.1 11), 3, 1, []⟩ : Book) 0).1.hi == (rangeF u1_0 u2_0).hi)) && ((clearA (⟨[(shipL (modF n.1 61) (pointF (IntKind.i64.wrap (1 + (modF n.2.1 120)))) (pointF (IntKind.i64.wrap (1 + (modF n.2.2.1 12)))))], (pointF 120), (modF n.2.2.2.1 11), 3, 1, []⟩ : Book) (modF n.2.2.2.2 61)).1 == (bif ((decide ((IntKind.i64.wrap ((modF n.2.2.2.2 61) + 3)) < u1_0)) || (decide ((modF n.2.2.2.2 61) > u2_0))) then 2 else 0))) && passedL)), by kernel_rfl, fun nV w' h => ⟨by rw [show FairwayOneL n = (((((whenA (⟨[(shipL (modF n.1 61) (pointF (IntKind.i64.wrap (1 + (modF n.2.1 120)))) (pointF (IntKind.i64.wrap (1 + (modF n.2.2.1 12)))))], (pointF 120), (modF n.2.2.2.1 11), 3, 1, []⟩ : Book) 0).2 == 0) && ((whenA (⟨[(shipL (modF n.1 61) (pointF (IntKind.i64.wrap (1 + (modF n.2.1 120)))) (pointF (IntKind.i64.wrap (1 + (modF n.2.2.1 12)))))], (pointF 120), (modF n.2.2.2.1 11), 3, 1, []⟩ : Book) 0).1.lo == (rangeF u1_0 u2_0).lo && (whenA (⟨[(shipL (modF n.1 61) (pointF (IntKind.i64.wrap (1 + (modF n.2.1 120)))) (pointF (IntKind.i64.wrap (1 + (modF n.2.2.1 12)))))], (pointF 120), (modF n.2.2.2.1 11), 3, 1, []⟩ : Book) 0).1.hi == (rangeF u1_0 u2_0).hi)) && ((clearA (⟨[(shipL (modF n.1 61) (pointF (IntKind.i64.wrap (1 + (modF n.2.1 120)))) (pointF (IntKind.i64.wrap (1 + (modF n.2.2.1 12)))))], (pointF 120), (modF n.2.2.2.1 11), 3, 1, []⟩ : Book) (modF n.2.2.2.2 61)).1 == (bif ((decide ((IntKind.i64.wrap ((modF n.2.2.2.2 61) + 3)) < u1_0)) || (decide ((modF n.2.2.2.2 61) > u2_0))) then 2 else 0))) && passedL) from by unfold FairwayOneL; simp only [hR1, hR2, hc4, hc6, cond_true, cond_false]]; rfl, h.bel⟩⟩
end Go.Proofs.YtamimgmoomcipaaDoor.Lw
namespace Go.Proofs.YtamimgmoomcipaaDoor.Lw
open Go Go.Proofs.YtamimgmoomcipaaDoor.Eng Go.Proofs.YtamimgmoomcipaaDoor.Fw Go.Proofs.YtamimgmoomcipaaDoor.Rf
set_option linter.unusedVariables false
set_option linter.unusedSimpArgs false
theorem check_two (b : Book) : checkW b = 0 ∨ checkW b = 40 := by
  rcases err_cases b true with h | h | h | h
  · exact .inr h.2
  · exact .inl h.1
  · exact .inl h.1
  · exact .inl h.1
section
variable {b : Book} (hv : Valid b)
include hv
end
end Go.Proofs.YtamimgmoomcipaaDoor.Lw
namespace Go.Proofs.YtamimgmoomcipaaDoor.Lw
open Go Go.Proofs.YtamimgmoomcipaaDoor.Eng Go.Proofs.YtamimgmoomcipaaDoor.Fw Go.Proofs.YtamimgmoomcipaaDoor.Rf
set_option linter.unusedVariables false
set_option linter.unusedSimpArgs false
set_option linter.unusedSectionVars false
theorem loopR_while {σ ρ : Type} {c : Nat → σ → Bool} {b : Nat → σ → Bd σ ρ} {N : Nat} (f : Nat → σ) (hb : ∀ k, k < N → b k (f k) = .go (f (k + 1))) : ∃ K, K ≤ N ∧ loopR c b N 0 (f 0) = .brk (f K) ∧ (∀ j, j < K → c j (f j) = true) ∧ (K < N → c K (f K) = false) := by
  have key : ∀ (m k : Nat), k + m = N → ∃ K, k ≤ K ∧ K ≤ N ∧ loopR c b m k (f k) = .brk (f K) ∧ (∀ j, k ≤ j → j < K → c j (f j) = true) ∧ (K < N → c K (f K) = false) := by
    intro m
    induction m with
    | zero => intro k h; exact ⟨k, Nat.le_refl _, by omega, rfl, fun j h1 h2 => by omega, fun h1 => by omega⟩
    | succ m ih =>
      intro k h
      unfold loopR
      cases hc : c k (f k)
      · exact ⟨k, Nat.le_refl _, by omega, rfl, fun j h1 h2 => by omega, fun _ => hc⟩
      · rw [hb k (by omega)]
        obtain ⟨K, h1, h2, h3, h4, h5⟩ := ih (k + 1) (by omega)
        refine ⟨K, by omega, h2, h3, fun j hj1 hj2 => ?_, h5⟩
        by_cases e : j = k
        · subst e; exact hc
        · exact h4 j (by omega) hj2
  obtain ⟨K, _, h2, h3, h4, h5⟩ := key N 0 (by omega)
  exact ⟨K, h2, h3, fun j hj => h4 j (by omega) hj, h5⟩
abbrev oneB (m a s br : Int) : Book := ⟨[(⟨m, ⟨a, a⟩, ⟨s, s⟩⟩ : Ship)], ⟨120, 120⟩, br, 3, 1, []⟩
section
variable {m a s br : Int} (hm : 0 ≤ m ∧ m ≤ 60) (ha : 1 ≤ a ∧ a ≤ 120) (hs : 1 ≤ s ∧ s ≤ 12) (hbr : 0 ≤ br ∧ br ≤ 10)
include hm ha hs hbr
theorem one_valid : Valid (oneB m a s br) := by
  refine ⟨by simp, ⟨by simp, by simp, by simp, by simp⟩, by simp, hbr, ⟨by simp, by simp⟩, ⟨by simp, by simp⟩, fun x hx => ?_, fun x hx => by cases hx⟩
  rw [List.mem_singleton] at hx
  subst hx
  exact ⟨hm, ⟨ha.1, Int.le_refl _, ha.2, by simp⟩, ⟨hs.1, Int.le_refl _, hs.2, by simp⟩⟩
theorem one_course {c : Int × Int} : c ∈ coursesF (oneB m a s br) 0 [] ↔ c = (a, s) := by
  rw [mem_coursesF (one_valid hm ha hs hbr) (by simp)]
  show (a ≤ c.1 ∧ c.1 ≤ a ∧ c.1 ≤ 120) ∧ (s ≤ c.2 ∧ c.2 ≤ s) ∧ rightF (oneB m a s br) 0 c.1 c.2 [] = true ↔ c = (a, s)
  constructor
  · rintro ⟨h1, h2, _⟩
    exact Prod.ext (by simp only; omega) (by simp only; omega)
  · rintro rfl
    exact ⟨⟨Int.le_refl _, Int.le_refl _, ha.2⟩, ⟨Int.le_refl _, Int.le_refl _⟩, rfl⟩
theorem one_true : isTrueF (oneB m a s br) [] = true := true_iff.2 fun k hk => by
  have : k = 0 := by simp at hk; exact hk
  subst this
  exact ⟨_, (one_course hm ha hs hbr).2 rfl⟩
theorem one_near {q : Nat} : nearF (oneB m a s br) 0 a s q = true ↔ m ≤ q ∧ a - s * (q - m) ≤ br ∧ s * (q - m) - a ≤ br := by
  unfold nearF awayF
  show (decide ((q : Int) ≥ m) && decide (max (a - s * ((q : Int) - m)) (-(a - s * ((q : Int) - m))) ≤ br)) = true ↔ _
  rw [Bool.and_eq_true, decide_eq_true_eq, decide_eq_true_eq]
  constructor
  · rintro ⟨h1, h2⟩; exact ⟨h1, by omega, by omega⟩
  · rintro ⟨h1, h2, h3⟩; exact ⟨h1, by omega⟩
theorem one_any (f : Int × Int → Bool) : (coursesF (oneB m a s br) 0 []).any f = f (a, s) := by
  rw [Bool.eq_iff_iff, List.any_eq_true]
  constructor
  · rintro ⟨c, h1, h2⟩; rw [← (one_course hm ha hs hbr).1 h1]; exact h2
  · intro h; exact ⟨_, (one_course hm ha hs hbr).2 rfl, h⟩
theorem one_all (f : Int × Int → Bool) : (coursesF (oneB m a s br) 0 []).all f = f (a, s) := by
  rw [Bool.eq_iff_iff, List.all_eq_true]
  constructor
  · intro h; exact h _ ((one_course hm ha hs hbr).2 rfl)
  · intro h c hc; rw [(one_course hm ha hs hbr).1 hc]; exact h
theorem one_clear {g : Int} : clearF (oneB m a s br) [] g = if hitF (nearF (oneB m a s br) 0 a s) g.toNat 4 then 0 else 2 := by
  rw [clearF_eq (one_valid hm ha hs hbr) (one_true hm ha hs hbr)]
  have e1 : ((List.range (oneB m a s br).ships.length).all fun k => !someF (oneB m a s br) [] k g.toNat ((oneB m a s br).cr + (oneB m a s br).sl).toNat) = !hitF (nearF (oneB m a s br) 0 a s) g.toNat 4 := by
    show ((List.range 1).all fun k => !someF (oneB m a s br) [] k g.toNat 4) = _
    have : List.range 1 = [0] := rfl
    rw [this]
    simp only [List.all_cons, List.all_nil, Bool.and_true]
    congr 1
    unfold someF
    rw [one_any hm ha hs hbr]
  have e2 : ((List.range (oneB m a s br).ships.length).all fun k => !eachF (oneB m a s br) [] k g.toNat ((oneB m a s br).cr + (oneB m a s br).sl).toNat) = !hitF (nearF (oneB m a s br) 0 a s) g.toNat 4 := by
    show ((List.range 1).all fun k => !eachF (oneB m a s br) [] k g.toNat 4) = _
    have : List.range 1 = [0] := rfl
    rw [this]
    simp only [List.all_cons, List.all_nil, Bool.and_true]
    congr 1
    unfold eachF
    rw [one_all hm ha hs hbr]
  rw [e1, e2]
  cases hitF (nearF (oneB m a s br) 0 a s) g.toNat 4 <;> rfl
theorem one_between {i j : Nat} (hi : ∀ k, k < i → a - s * k > br) (hi2 : a - s * i ≤ br) (hj : ∀ k, k < j → s * (k + 1) - a ≤ br) (hj2 : s * (j + 1) - a > br) {q : Nat} : nearF (oneB m a s br) 0 a s q = true ↔ m + i ≤ q ∧ (q : Int) ≤ m + j := by
  rw [one_near hm ha hs hbr]
  constructor
  · rintro ⟨h1, h2, h3⟩
    obtain ⟨k, hk⟩ : ∃ k : Nat, (q : Int) - m = k := ⟨((q : Int) - m).toNat, by omega⟩
    rw [hk] at h2 h3
    constructor
    · apply Classical.byContradiction
      intro h
      have := hi k (by omega)
      omega
    · apply Classical.byContradiction
      intro h
      have h4 : s * ((j : Int) + 1) ≤ s * (k : Int) := Int.mul_le_mul_of_nonneg_left (by omega) (by omega)
      omega
  · rintro ⟨h1, h2⟩
    obtain ⟨k, hk⟩ : ∃ k : Nat, (q : Int) - m = k := ⟨((q : Int) - m).toNat, by omega⟩
    rw [hk]
    refine ⟨by omega, ?_, ?_⟩
    · have h4 : s * (i : Int) ≤ s * (k : Int) := Int.mul_le_mul_of_nonneg_left (by omega) (by omega)
      omega
    · cases k with
      | zero => simp; omega
      | succ k =>
        have := hj k (by omega)
        rw [show ((k + 1 : Nat) : Int) = (k : Int) + 1 from rfl]; exact this
end
theorem FairwayOne_true (n : Int × Int × Int × Int × Int) : FairwayOneL n = true := by
  have h1 := modF_in n.1 61 (by omega) (by omega)
  have h2 := modF_in n.2.1 120 (by omega) (by omega)
  have h3 := modF_in n.2.2.1 12 (by omega) (by omega)
  have h4 := modF_in n.2.2.2.1 11 (by omega) (by omega)
  have h5 := modF_in n.2.2.2.2 61 (by omega) (by omega)
  obtain ⟨K, hK, hl1, hK1, hK2⟩ := loopR_while (c := FairwayOneL_c1 n) (b := FairwayOneL_b1 n) (N := 121) (fun k => modF n.1 61 + k) (fun k hk => by
    simp only [FairwayOneL_b1]
    rw [wrapI (by omega) (by omega)]
    congr 1; omega)
  try simp only at hl1
  rw [show modF n.1 61 + ((0 : Nat) : Int) = modF n.1 61 by simp] at hl1
  obtain ⟨J, hJ, hl2, hJ1, hJ2⟩ := loopR_while (c := FairwayOneL_c2 n (modF n.1 61 + K)) (b := FairwayOneL_b2 n (modF n.1 61 + K)) (N := 131) (fun k => modF n.1 61 + k) (fun k hk => by
    simp only [FairwayOneL_b2]
    rw [wrapI (by omega) (by omega)]
    congr 1; omega)
  try simp only at hl2
  rw [show modF n.1 61 + ((0 : Nat) : Int) = modF n.1 61 by simp] at hl2
  unfold FairwayOneL
  rw [hl1]
  try simp only
  rw [hl2]
  try simp only
  have e1 : IntKind.i64.wrap (1 + modF n.2.1 120) = 1 + modF n.2.1 120 := wrapI (by omega) (by omega)
  have e2 : IntKind.i64.wrap (1 + modF n.2.2.1 12) = 1 + modF n.2.2.1 12 := wrapI (by omega) (by omega)
  have hc1 : ∀ k : Nat, k ≤ 121 → FairwayOneL_c1 n k (modF n.1 61 + k) = decide ((1 + modF n.2.1 120) - (1 + modF n.2.2.1 12) * k > modF n.2.2.2.1 11) := fun k hk => by
    simp only [FairwayOneL_c1]
    have g1 := Int.mul_le_mul (show 1 + modF n.2.2.1 12 ≤ 12 by omega) (show (k : Int) ≤ 121 by omega) (by omega) (by omega)
    have g2 := Int.mul_le_mul (show 1 ≤ 1 + modF n.2.2.1 12 by omega) (Int.le_refl (k : Int)) (by omega) (by omega)
    rw [e1, e2, wrapI (x := modF n.1 61 + k - modF n.1 61) (by omega) (by omega), show modF n.1 61 + (k : Int) - modF n.1 61 = k by omega, wrapI (x := (1 + modF n.2.2.1 12) * (k : Int)) (by omega) (by omega), wrapI (by omega) (by omega)]
  have hc2 : ∀ k : Nat, k ≤ 131 → FairwayOneL_c2 n (modF n.1 61 + K) k (modF n.1 61 + k) = decide ((1 + modF n.2.2.1 12) * (k + 1) - (1 + modF n.2.1 120) ≤ modF n.2.2.2.1 11) := fun k hk => by
    simp only [FairwayOneL_c2]
    have g1 := Int.mul_le_mul (show 1 + modF n.2.2.1 12 ≤ 12 by omega) (show (k : Int) + 1 ≤ 132 by omega) (by omega) (by omega)
    have g2 := Int.mul_le_mul (show 1 ≤ 1 + modF n.2.2.1 12 by omega) (Int.le_refl ((k : Int) + 1)) (by omega) (by omega)
    rw [e1, e2, wrapI (x := modF n.1 61 + k + 1) (by omega) (by omega), wrapI (x := modF n.1 61 + k + 1 - modF n.1 61) (by omega) (by omega), show modF n.1 61 + (k : Int) + 1 - modF n.1 61 = k + 1 by omega, wrapI (x := (1 + modF n.2.2.1 12) * ((k : Int) + 1)) (by omega) (by omega), wrapI (by omega) (by omega)]
  clear hl1 hl2
  rw [e1, e2, wrapI (x := modF n.2.2.2.2 61 + 3) (by omega) (by omega)]
  generalize modF n.1 61 = m at *
  have ha : 1 ≤ 1 + modF n.2.1 120 ∧ 1 + modF n.2.1 120 ≤ 120 := by omega
  have hs : 1 ≤ 1 + modF n.2.2.1 12 ∧ 1 + modF n.2.2.1 12 ≤ 12 := by omega
  have hbr : 0 ≤ modF n.2.2.2.1 11 ∧ modF n.2.2.2.1 11 ≤ 10 := by omega
  clear e1 e2 h2 h3 h4
  generalize 1 + modF n.2.1 120 = a at *
  generalize 1 + modF n.2.2.1 12 = s at *
  generalize modF n.2.2.2.1 11 = br at *
  generalize modF n.2.2.2.2 61 = g at *
  have hm : 0 ≤ m ∧ m ≤ 60 := by omega
  have hKlt : K < 121 := by
    apply Classical.byContradiction
    intro h
    have h120 := hK1 120 (by omega)
    rw [hc1 120 (by omega), decide_eq_true_eq] at h120
    have := Int.mul_le_mul (show 1 ≤ s by omega) (show (120 : Int) ≤ ((120 : Nat) : Int) by omega) (by omega) (by omega)
    omega
  have hJlt : J < 131 := by
    apply Classical.byContradiction
    intro h
    have h130 := hJ1 130 (by omega)
    rw [hc2 130 (by omega), decide_eq_true_eq] at h130
    have := Int.mul_le_mul (show 1 ≤ s by omega) (show (131 : Int) ≤ ((130 : Nat) : Int) + 1 by omega) (by omega) (by omega)
    omega
  have hi : ∀ k, k < K → a - s * k > br := fun k hk => by
    have := hK1 k hk
    rw [hc1 k (by omega), decide_eq_true_eq] at this; exact this
  have hi2 : a - s * K ≤ br := by
    have := hK2 hKlt
    rw [hc1 K (by omega), decide_eq_false_iff_not] at this; omega
  have hj : ∀ k : Nat, k < J → s * (k + 1) - a ≤ br := fun k hk => by
    have := hJ1 k hk
    rw [hc2 k (by omega), decide_eq_true_eq] at this; exact this
  have hj2 : s * (J + 1) - a > br := by
    have := hJ2 hJlt
    rw [hc2 J (by omega), decide_eq_false_iff_not] at this; omega
  have hv := one_valid hm ha hs hbr
  have ht := one_true hm ha hs hbr
  have hb : ∀ q : Nat, nearF (oneB m a s br) 0 a s q = true ↔ m + K ≤ q ∧ (q : Int) ≤ m + J := fun q => one_between hm ha hs hbr hi hi2 hj hj2
  have hB : (⟨[(shipL m (pointF a) (pointF s))], (pointF 120), br, 3, 1, []⟩ : Book) = oneB m a s br := rfl
  rw [hB, clearA_T hv ht h5.1 (by omega), show whenA (oneB m a s br) 0 = whenA (oneB m a s br) ((0 : Nat) : Int) from rfl, whenA_T hv ht (p := 0) (by simp), one_clear hm ha hs hbr, passed_true]
  have hmw : ∀ x : Int, x ∈ whenL (oneB m a s br) 0 ↔ m + K ≤ x ∧ x ≤ m + J := fun x => by
    rw [mem_whenL]
    unfold canN
    rw [one_any hm ha hs hbr]
    simp only
    rw [hb]
    constructor
    · rintro ⟨h1, h2⟩; omega
    · rintro ⟨h1, h2⟩; omega
  have hhit : hitF (nearF (oneB m a s br) 0 a s) g.toNat 4 = decide (m + K ≤ m + J ∧ ¬ (g + 3 < m + K ∨ g > m + J)) := by
    rw [Bool.eq_iff_iff, decide_eq_true_eq]
    unfold hitF
    rw [List.any_eq_true]
    constructor
    · rintro ⟨q, hq, h⟩
      have := List.mem_range.1 hq
      rw [hb] at h
      omega
    · rintro ⟨h6, h7⟩
      refine ⟨(max g (m + K) - g).toNat, List.mem_range.2 (by omega), ?_⟩
      rw [hb]
      omega
  rw [hhit]
  simp only [bne_self_eq_false, cond_false]
  by_cases hgt : m + (K : Int) > m + J
  · have hempty : whenL (oneB m a s br) 0 = [] := by
      cases hw : whenL (oneB m a s br) 0 with
      | nil => rfl
      | cons y r =>
        have := (hmw y).1 (by rw [hw]; exact List.mem_cons_self)
        omega
    rw [if_pos hempty, decide_eq_true hgt, decide_eq_false (by omega)]; rfl
  · have hmem1 := (hmw (m + K)).2 ⟨Int.le_refl _, by omega⟩
    have hmem2 := (hmw (m + J)).2 ⟨by omega, Int.le_refl _⟩
    have hne : whenL (oneB m a s br) 0 ≠ [] := fun h => by rw [h] at hmem1; cases hmem1
    have hl : 0 < (whenL (oneB m a s br) 0).length := by
      cases hw : whenL (oneB m a s br) 0 with
      | nil => exact absurd hw hne
      | cons y r => simp
    have hf := asc_first (asc_whenL (oneB m a s br) 0) hl
    have hla := asc_last (asc_whenL (oneB m a s br) 0) hl
    have f1 := hf.2 _ hmem1
    have f2 := (hmw _).1 hf.1
    have l1 := hla.2 _ hmem2
    have l2 := (hmw _).1 hla.1
    have e1 : (whenL (oneB m a s br) 0).getD 0 0 = m + K := by omega
    have e2 : (whenL (oneB m a s br) 0).getD ((whenL (oneB m a s br) 0).length - 1) 0 = m + J := by omega
    rw [if_neg hne, decide_eq_false hgt, e1, e2]
    simp only [rangeF, beq_self_eq_true, Bool.true_and, Bool.and_true, cond_false]
    by_cases ho : g + 3 < m + K ∨ g > m + J
    · rw [decide_eq_false (fun h => h.2 ho)]
      rcases ho with h | h
      · rw [decide_eq_true h]; simp
      · rw [decide_eq_true h]; simp
    · rw [decide_eq_true ⟨by omega, ho⟩, decide_eq_false (by omega), decide_eq_false (by omega)]; simp
end Go.Proofs.YtamimgmoomcipaaDoor.Lw
namespace Go.Proofs.YtamimgmoomcipaaDoor.Lw
open Go Go.ChangeShapes Go.WideShapes Go.RowKit Go.Proofs.YtamimgmoomcipaaDoor.Eng Go.Proofs.YtamimgmoomcipaaDoor.Fw Go.Proofs.YtamimgmoomcipaaDoor.Rf
set_option linter.unusedVariables false
set_option linter.unusedSimpArgs false
set_option maxRecDepth 100000
namespace FairwayOne
theorem door_met_fairwayOne (os : Os) (args : Array Value) : laidMetH Tryd.prog Rows.fairwayOneRow.laid ((World.doorLaid Tryd.prog 14 os).forCall (fun _ _ => 0) ⟨#[], args, []⟩).memory :=
  laidMetH_of_parts3 (fuel := 8) (laidMet_of_run' 8 (by kernel_rfl) (by kernel_rfl)) (by kernel_rfl) (by kernel_rfl)
theorem contract (H : Type) (enc : TypeId × Value → H) (W : World) (base : Nat) (args : Array Value) (ds gs : List (DataW H)) (before : List MemPlace)
    (hval : ∀ (j : Nat) t v, Tryd.f13.params[j]? = some t → args[j]? = some v → Value.okWide Tryd.prog W .any base t v)
    (hW : DataW.Whole enc Tryd.prog Tryd.f13.params.toList Rows.fairwayOneSpec.vars false W args.toList ds gs before)
    (hsz0 : (DataW.weightsEach Tryd.prog (Tryd.f13.params.toList ++ []) (ds ++ gs)).all (fun x => decide (x ≤ reachBytes)) = true) (hL : laidMetH Tryd.prog Rows.fairwayOneRow.laid W) (hS : W.ShapedOpen Tryd.prog) :
    Calls Tryd.prog 13 args W fun e W' => ∃ v, e = .returned v ∧ Rows.fairwayOneSpec.post enc Tryd.prog Tryd.f13 false true false false W args v W' := by
  have hW' := hW
  obtain ⟨p, q, hA0, hV, rfl, hfz, hnd⟩ := hW
  have hA : DataW.TrodAll enc Tryd.prog W 0 (fun _ => true) true Tryd.f13.params.toList args.toList ds p := hA0
  rw [Tryd.params13] at hA hval hsz0
  clear hA0
  obtain ⟨v0, vs0, d0, ds0, p0, q0, hargs, rfl, rfl, h0, r0⟩ := trodAll_cons hA
  obtain ⟨rfl, rfl, rfl⟩ := trodAll_nil r0
  obtain rfl : args = #[v0] := by apply Array.ext'; rw [hargs]
  obtain ⟨rfl, rfl⟩ := trodVars_none hV
  have hsz : (DataW.weightsEach Tryd.prog [80] [d0]).all (fun x => decide (x ≤ reachBytes)) = true := by simpa using hsz0
  have hb0 : Wb Tryd.prog 80 d0 := Bd_each hsz (j := 0) rfl rfl
  obtain ⟨c0, rfl, ⟨x0, y0, q0_0, q0_1, q0_2, q0_3, q0_4, _⟩⟩ := arg_arr Tryd.underlying80 (hval 0 80 v0 rfl rfl) h0 hb0 opn80
  rw [agg_of y0] at *
  have ha := asks_of hS hL
  have hc := FairwayOneL_calls  x0 W  ha
  refine hc.mono fun e W' ⟨he, hb⟩ => ?_
  refine ⟨.bool true, he.trans (by rw [FairwayOne_true x0]), law_post laidOut (fun u hu => ?_) hW' rfl (by kernel_rfl) Tryd.underlying4 rfl rfl rfl hb⟩
  have hall : ([80] : List TypeId).all (fun u => Tryd.prog.readableRec u && decide (u < Tryd.prog.types.size)) = true := by kernel_rfl
  have hu' : u ∈ ([80] : List TypeId) := hu
  have := List.all_eq_true.1 hall u hu'
  simp only [Bool.and_eq_true, decide_eq_true_eq] at this
  exact this
theorem reads (os : Os) {H : Type} (enc : TypeId × Value → H) : ∃ places, DataW.whole enc Tryd.prog ((World.doorLaid Tryd.prog 14 os).forCall (fun _ _ => 0) ⟨#[], #[.agg #[.int .i64 0, .int .i64 0, .int .i64 0, .int .i64 0, .int .i64 0]], []⟩).memory Tryd.f13.params.toList Rows.fairwayOneSpec.vars false (#[.agg #[.int .i64 0, .int .i64 0, .int .i64 0, .int .i64 0, .int .i64 0]] : Array Value).toList 8 = some ([.agg [.lit (.int .i64 0), .lit (.int .i64 0), .lit (.int .i64 0), .lit (.int .i64 0), .lit (.int .i64 0)]], [], places) :=
  ⟨[], by kernel_rfl⟩
set_option maxRecDepth 100000 in
theorem lifted (os : Os) (started : os.Started) (H : Type) (enc : TypeId × Value → H) (F : Stop.Interp) :
    ReturnsInHanded {} Tryd.checked os 13 .any ((OpenSpec.ofChange Rows.fairwayOneSpec).preRow enc Tryd.prog Tryd.f13 Rows.fairwayOneRow.domain false Rows.fairwayOneRow.laid) (((OpenSpec.ofChange Rows.fairwayOneSpec).at F).post enc Tryd.prog Tryd.f13 false true false false) := by
  obtain ⟨places, hx⟩ := reads os enc
  refine returnsInHanded_of_row (C := Tryd.checked) (s := OpenSpec.ofChange Rows.fairwayOneSpec) own started (by kernel_rfl) Tryd.func13
    (witness_row_atRef (enc := enc) (C := Tryd.checked) false (World.doorLaid Tryd.prog 14 os) #[.agg #[.int .i64 0, .int .i64 0, .int .i64 0, .int .i64 0, .int .i64 0]] rfl (by kernel_rfl) (by kernel_rfl) (by kernel_rfl)
      (OpenSpec.preRow_of_cond 8 hx (by kernel_rfl) (fun k hk => by cases hk) (by kernel_rfl) (door_met_fairwayOne os _))) ?_
  intro W base args ds gs before hval hW _ hcond hsz hL hS _
  exact contract H enc W base args ds gs before hval hW hsz hL hS
theorem said : Rows.FairwayOneSaid :=
  OpenClaim.holds_of_cond 13 Tryd.f13 rfl rfl rfl rfl rfl rfl rfl ⟨rfl, rfl, rfl, rfl, rfl⟩ rfl rfl rfl rfl rfl (by kernel_rfl) Tryd.func13 (by kernel_rfl)
    (of_decide_eq_true (by kernel_rfl)) (by unfold Func.isWrapper; first | (rw [if_pos (by decide +kernel)]; kernel_rfl) | (rw [if_neg (by decide +kernel)]; exact ⟨rfl, rfl⟩))
    (fun os started H enc _ F => by rw [OpenClaim.pre_eq_preRow]; exact lifted os started H enc F)
theorem plain (f : FuncId) (fn : Func) (hf : Tryd.pinned.checked.prog.funcNamed "prow/prowlaw04.FairwayOne" = some f) (hfn : Tryd.pinned.checked.prog.funcs[f]? = some fn) :
    false = Tryd.pinned.checked.prog.looks [] ∧ ∀ (j : Nat) t, fn.params[j]? = some t → Tryd.pinned.checked.prog.wantsStandIn t = false := by
  obtain rfl : f = 13 := Option.some.inj ((show Tryd.prog.funcNamed "prow/prowlaw04.FairwayOne" = some 13 by kernel_rfl).symm.trans hf) |>.symm
  obtain rfl : fn = Tryd.f13 := (Option.some.inj (Tryd.func13.symm.trans hfn)).symm
  refine ⟨by kernel_rfl, fun j t ht => ?_⟩
  rw [Tryd.params13] at ht
  have hm : t ∈ ([80] : List TypeId) := by simpa using Array.mem_of_getElem? ht
  have hall : (([80] : List TypeId).all fun u => !Tryd.prog.wantsStandIn u) = true := by kernel_rfl
  exact (show Tryd.prog.wantsStandIn t = false by simpa using List.all_eq_true.1 hall t hm)
theorem card : Rows.FairwayOneCardSaid :=
  Claim7.holds_tied_plain_at .later [] _ _ _ _ said (fun _ h => by cases h) (by kernel_rfl) (fun _ h => by cases h) fairwayOne_row_tie rfl ⟨rfl, rfl⟩ (by kernel_rfl) rfl plain (by kernel_rfl)
end FairwayOne
end Go.Proofs.YtamimgmoomcipaaDoor.Lw
theorem Go.Proofs.YtamimgmoomcipaaDoor.fairwayOne_holds : Go.Proofs.YtamimgmoomcipaaDoor.Rows.FairwayOneCardSaid := Go.Proofs.YtamimgmoomcipaaDoor.Lw.FairwayOne.card
