/- Parts of the proof of FairwayOne: the engine, contracts of functions, plain lemmas. -/
import Derived.Test.YtamimgmoomcipaaDoorFairwayOneA1
import Derived.ArgAppend
import Derived.Below
import Derived.ChangeKeysEq
import Derived.ControlIn
import Derived.Deep.Draws
import Derived.Deep.Quiet
import Derived.KernelRfl
import Derived.Laws.AppendOwn
import Derived.Laws.Cells
import Derived.Laws.CopyRow
import Derived.Laws.IdiomRangeMap
import Derived.Laws.Rows
import Derived.MapKept
import Derived.Maps.AppendAt
import Derived.OrdersHeld
import Derived.OrdersIn
import Derived.RangeFuncLeaves
import Derived.RangeFuncNested
import Derived.RangeFuncOwn
import Derived.Test.YtamimgmoomcipaaDoorProg
import Derived.WalkKit
import Derived.WideKeyRuns
namespace Go.Proofs.YtamimgmoomcipaaDoor.Fw
open Go Go.RowKit Go.Proofs.YtamimgmoomcipaaDoor.Eng
set_option linter.unusedVariables false
set_option linter.unusedSimpArgs false
def AsksAt (w : World) : Prop := w.heap[0]? = some (.cells #[.func (.func 81) #[] #[], .func (.func 139) #[] #[]] 139 (0, 0))
theorem HSat_bookN {w : World} {sv gv cv : Value} {b : Book} {but : List Int} {maps : List Nat} (hb : BookAt w sv gv b) (h : CanAt w cv b but maps) (ha : AsksAt w) {nt : Nat} {e : List (Nat × List (Nat × Bool) × AV)} : HSat (cx0 w (vn [sv, gv, cv]) 3) (vn [sv, gv, cv]) ⟨nt, e, hpB b ++ [(2, .sl .ro 100 1 maps encM 0), (3, pfC b but maps), (4, .pf AsksAt (· = 0))], 5, []⟩ w :=
  HSat_args (vn_one (by simp [hb.ships.one, hb.sights.one, h.reads.one])) (by decide) ⟨⟨⟨fun _ => rfl, by decide, hb.ships⟩, (Nat.le_of_ble_eq_true rfl)⟩, ⟨⟨fun _ => rfl, by decide, hb.sights⟩, (Nat.le_of_ble_eq_true rfl)⟩, ⟨⟨fun _ => rfl, by decide, h.reads⟩, (Nat.le_of_ble_eq_true rfl)⟩, ⟨⟨h.at', fun w1 w2 h1 hw => h1.stab hw, fun g hg => by
    obtain ⟨q, hq, rfl⟩ := List.mem_iff_getElem.1 hg
    exact (Array.getElem?_eq_some_iff.1 (h.at' q hq)).1⟩, (Nat.le_of_ble_eq_true rfl)⟩, ⟨⟨ha, fun w1 w2 h1 hw => (hw 0 rfl).trans h1, fun g hg => by cases hg; exact (Array.getElem?_eq_some_iff.1 ha).1⟩, (Nat.le_of_ble_eq_true rfl)⟩, trivial⟩
def near01 (b : Book) (but : List Int) (k first many : Nat) : Int := if someF b but k first many then 1 else 0
def near02 (b : Book) (but : List Int) (k first many : Nat) : Int := near01 b but k first many + (if eachF b but k first many then 1 else 0)
theorem taut_calls (sv gv cv : Value) (b : Book) (but : List Int) (maps : List Nat) (x : Int) (w : World) (hb : BookAt w sv gv b) (hm : CanAt w cv b but maps) (hv : Valid b) : Calls Tryd.prog 80 #[bookV2 sv gv cv b, iv x] w fun e w' => e = .returned (.agg #[iv x, iv (b.cr + b.sl)]) ∧ Below w.heap.size w w' := by
  refine calls_of_WP (cx := cx0 w (vn [sv, gv, cv]) 3) (n := vn [sv, gv, cv]) (vs := [.g (bookC b), .s (.int .i64 x)]) (hp := hpB b ++ [(2, .sl .ro 100 1 maps encM 0), (3, pfC b but maps)]) (nx := 4) tt_ok Tryd.func80 rfl rfl rfl (by kernel_rfl) (HSat_bookM hb hm) (vsOk (by kernel_rfl)) ?_
  refine WP_seq (WP_region (WPO_all tt_ok (by kernel_rfl) ?_))
  refine WP_seq (WP_region (WPO_all tt_ok (by kernel_rfl) ?_))
  refine WP_ret ?_
  exact ⟨.g [.int .i64 x, .int .i64 (IntKind.i64.wrap (b.cr + b.sl))], by kernel_rfl, fun n w' h => ⟨by simp only [AV.c, AC.c]; rw [show IntKind.i64.wrap (b.cr + b.sl) = b.cr + b.sl from wrapI (by have := hv.cr; have := hv.sl; omega) (by have := hv.cr; have := hv.sl; omega)]; rfl, h.bel⟩⟩
theorem near_calls (sv gv cv : Value) (b : Book) (but : List Int) (maps : List Nat) (k first many : Nat) (w : World) (hb : BookAt w sv gv b) (hm : CanAt w cv b but maps) (ha : AsksAt w) (hk : k < b.ships.length) (h1 : first + many ≤ 201) : Calls Tryd.prog 86 #[bookV2 sv gv cv b, iv k, .agg #[iv first, iv many]] w fun e w' => e = .returned (iv (near02 b but k first many)) ∧ Below w.heap.size w w' := by
  refine calls_of_WP (cx := cx0 w (vn [sv, gv, cv]) 3) (n := vn [sv, gv, cv]) (vs := [.g (bookC b), .s (.int .i64 (k : Int)), .g [.int .i64 (first : Int), .int .i64 (many : Int)]]) (hp := hpB b ++ [(2, .sl .ro 100 1 maps encM 0), (3, pfC b but maps), (4, .pf AsksAt (· = 0))]) (nx := 5) tt_ok Tryd.func86 rfl rfl rfl (by kernel_rfl) (HSat_bookN hb hm ha) (vsOk (by kernel_rfl)) ?_
  have hml := hm.len
  refine WP_seq (WP_region (WPO_all tt_ok (by kernel_rfl) ?_))
  refine WP_seq (WP_region (WPO_all tt_ok (by kernel_rfl) ?_))
  refine WP_seq (WP_seq (WP_region (LDG tt_ok 139 0 (some 10) [.v (.func (.func 81) #[] #[]), .v (.func (.func 139) #[] #[])] 139 (.g [.v (.func (.func 81) #[] #[]), .v (.func (.func 139) #[] #[])]) (by kernel_rfl) (by kernel_rfl) (by kernel_rfl) (fun n w h => (h.ents (4, .pf AsksAt (· = 0)) (fnd_mem (by kernel_rfl))).1) (by kernel_rfl) ?_)))
  refine WPO_all tt_ok (by kernel_rfl) ?_
  refine WP_block (WP_loop (σ := Int × Int) (fun zz => ⟨23, [(11, [], .s (.int .i64 zz.1)), (10, [], .g [.v (.func (.func 81) #[] #[]), .v (.func (.func 139) #[] #[])]), (7, [], .s (.int .i64 zz.2)), (5, [], .s (.p 6 0)), (3, [], .s (.p 5 0)), (1, [], .s (.int .i64 (k : Int)))], [(6, .box 107 [.int .i64 (first : Int), .int .i64 (many : Int)]), (5, .box 94 [.ref 0, .int .i64 b.hear.lo, .int .i64 b.hear.hi, .int .i64 b.br, .int .i64 b.cr, .int .i64 b.sl, .ref 1, .ref 2]), (0, .sl .ro 65 5 b.ships encShip zShip), (1, .sl .ro 70 4 b.sights encSight zSight), (2, .sl .ro 100 1 maps encM 0), (3, pfC b but maps), (4, .pf AsksAt (· = 0))], 7, []⟩) (fun zz => (zz.1 = 0 ∧ zz.2 = 0) ∨ (zz.1 = 1 ∧ zz.2 = near01 b but k first many) ∨ (zz.1 = 2 ∧ zz.2 = near02 b but k first many)) (fun zz => 2 - zz.1.toNat) (0, 0) (.inl ⟨rfl, rfl⟩) (Le_sel (ts := [11, 10, 7, 5, 3, 1]) (ids := [6, 5, 0, 1, 2, 3, 4]) (nx := 7) (by kernel_rfl)) ?_)
  rintro ⟨i, c⟩ hinv
  simp only at hinv
  rcases hinv with ⟨rfl, rfl⟩ | ⟨rfl, rfl⟩ | ⟨rfl, rfl⟩
  · refine WP_seq (WP_region (WPO_all tt_ok (by kernel_rfl) ?_))
    refine WP_seq (WP_cond (decide ((0 : Int) < 2)) (by kernel_rfl) (fun hc1 => ?_) (fun h => by cases h))
    refine WP_skip ?_
    refine WP_seq (WP_block ?_)
    refine WP_seq (WP_region (WPO_all tt_ok (by kernel_rfl) ?_))
    refine WP_seq (WP_region (WPO_run tt_ok 4 (by kernel_rfl) ?_))
    refine CALL 81 [.g [.ref 0, .int .i64 b.hear.lo, .int .i64 b.hear.hi, .int .i64 b.br, .int .i64 b.cr, .int .i64 b.sl, .ref 1, .ref 2], .s (.int .i64 (k : Int)), .g [.int .i64 (first : Int), .int .i64 (many : Int)]] (.s (.bool (someF b but k first many))) [] (by kernel_rfl) (goes_of (by kernel_rfl)) (by kernel_rfl) (by kernel_rfl) (fun _ n w h => some_calls (n 0) (n 1) (n 2) b but maps k first many w (HSat_toBook h (by kernel_rfl) (by kernel_rfl)) (HSat_toCan 2 3 hml h (by kernel_rfl) (by kernel_rfl)) hk h1) ?_
    refine WPO_nil ?_
    refine WP_join (someF b but k first many) (fun q => ⟨23, [(7, [], .s (.int .i64 (bif q then IntKind.i64.wrap (0 + 1) else 0))), (11, [], .s (.int .i64 0)), (10, [], .g [.v (.func (.func 81) #[] #[]), .v (.func (.func 139) #[] #[])]), (5, [], .s (.p 6 0)), (3, [], .s (.p 5 0)), (1, [], .s (.int .i64 (k : Int)))], [(6, .box 107 [.int .i64 (first : Int), .int .i64 (many : Int)]), (5, .box 94 [.ref 0, .int .i64 b.hear.lo, .int .i64 b.hear.hi, .int .i64 b.br, .int .i64 b.cr, .int .i64 b.sl, .ref 1, .ref 2]), (0, .sl .ro 65 5 b.ships encShip zShip), (1, .sl .ro 70 4 b.sights encSight zSight), (2, .sl .ro 100 1 maps encM 0), (3, pfC b but maps), (4, .pf AsksAt (· = 0))], 7, []⟩) (by kernel_rfl) (fun hc3 => ?_) (fun hc3 => ?_) ?_
    · refine WP_region (WPO_all tt_ok (by kernel_rfl) ?_)
      exact Le_sel (ts := [7, 11, 10, 5, 3, 1]) (ids := [6, 5, 0, 1, 2, 3, 4]) (nx := 7) (by kernel_rfl)
    · refine WP_skip ?_
      exact Le_sel (ts := [7, 11, 10, 5, 3, 1]) (ids := [6, 5, 0, 1, 2, 3, 4]) (nx := 7) (by kernel_rfl)
    refine WP_region (WPO_all tt_ok (by kernel_rfl) ?_)
    refine ⟨(IntKind.i64.wrap (0 + 1), bif (someF b but k first many) then IntKind.i64.wrap (0 + 1) else 0), ?_, ?_, Le_sel (ts := [11, 10, 7, 5, 3, 1]) (ids := [6, 5, 0, 1, 2, 3, 4]) (nx := 7) (by kernel_rfl)⟩
    · refine .inr (.inl ⟨rfl, ?_⟩)
      simp only
      unfold near01
      cases someF b but k first many <;> rfl
    · simp only
      decide
  · refine WP_seq (WP_region (WPO_all tt_ok (by kernel_rfl) ?_))
    refine WP_seq (WP_cond (decide ((1 : Int) < 2)) (by kernel_rfl) (fun hc4 => ?_) (fun h => by cases h))
    refine WP_skip ?_
    refine WP_seq (WP_block ?_)
    refine WP_seq (WP_region (WPO_all tt_ok (by kernel_rfl) ?_))
    refine WP_seq (WP_region (WPO_run tt_ok 4 (by kernel_rfl) ?_))
    refine CALL 139 [.g [.ref 0, .int .i64 b.hear.lo, .int .i64 b.hear.hi, .int .i64 b.br, .int .i64 b.cr, .int .i64 b.sl, .ref 1, .ref 2], .s (.int .i64 (k : Int)), .g [.int .i64 (first : Int), .int .i64 (many : Int)]] (.s (.bool (eachF b but k first many))) [] (by kernel_rfl) (goes_of (by kernel_rfl)) (by kernel_rfl) (by kernel_rfl) (fun _ n w h => each_calls (n 0) (n 1) (n 2) b but maps k first many w (HSat_toBook h (by kernel_rfl) (by kernel_rfl)) (HSat_toCan 2 3 hml h (by kernel_rfl) (by kernel_rfl)) hk h1) ?_
    refine WPO_nil ?_
    refine WP_join (eachF b but k first many) (fun q => ⟨23, [(7, [], .s (.int .i64 (bif q then IntKind.i64.wrap ((near01 b but k first many) + 1) else near01 b but k first many))), (11, [], .s (.int .i64 1)), (10, [], .g [.v (.func (.func 81) #[] #[]), .v (.func (.func 139) #[] #[])]), (5, [], .s (.p 6 0)), (3, [], .s (.p 5 0)), (1, [], .s (.int .i64 (k : Int)))], [(6, .box 107 [.int .i64 (first : Int), .int .i64 (many : Int)]), (5, .box 94 [.ref 0, .int .i64 b.hear.lo, .int .i64 b.hear.hi, .int .i64 b.br, .int .i64 b.cr, .int .i64 b.sl, .ref 1, .ref 2]), (0, .sl .ro 65 5 b.ships encShip zShip), (1, .sl .ro 70 4 b.sights encSight zSight), (2, .sl .ro 100 1 maps encM 0), (3, pfC b but maps), (4, .pf AsksAt (· = 0))], 7, []⟩) (by kernel_rfl) (fun hc6 => ?_) (fun hc6 => ?_) ?_
    · refine WP_region (WPO_all tt_ok (by kernel_rfl) ?_)
      exact Le_sel (ts := [7, 11, 10, 5, 3, 1]) (ids := [6, 5, 0, 1, 2, 3, 4]) (nx := 7) (by kernel_rfl)
    · refine WP_skip ?_
      exact Le_sel (ts := [7, 11, 10, 5, 3, 1]) (ids := [6, 5, 0, 1, 2, 3, 4]) (nx := 7) (by kernel_rfl)
    refine WP_region (WPO_all tt_ok (by kernel_rfl) ?_)
    refine ⟨(IntKind.i64.wrap (1 + 1), bif (eachF b but k first many) then IntKind.i64.wrap ((near01 b but k first many) + 1) else near01 b but k first many), ?_, ?_, Le_sel (ts := [11, 10, 7, 5, 3, 1]) (ids := [6, 5, 0, 1, 2, 3, 4]) (nx := 7) (by kernel_rfl)⟩
    · refine .inr (.inr ⟨rfl, ?_⟩)
      simp only
      unfold near02 near01
      cases someF b but k first many <;> cases eachF b but k first many <;> rfl
    · simp only
      decide
  refine WP_seq (WP_region (WPO_all tt_ok (by kernel_rfl) ?_))
  refine WP_seq (WP_cond (decide ((2 : Int) < 2)) (by kernel_rfl) (fun h => by cases h) (fun hc7 => ?_))
  refine WP_exit ?_
  refine WP_seq (WP_region (WPO_all tt_ok (by kernel_rfl) ?_))
  refine WP_ret ?_
  exact ⟨.s (.int .i64 (near02 b but k first many)), by kernel_rfl, fun n w' h => ⟨rfl, h.bel⟩⟩
end Go.Proofs.YtamimgmoomcipaaDoor.Fw
namespace Go.Proofs.YtamimgmoomcipaaDoor.Eng
open Go Go.RowKit
set_option linter.unusedVariables false
set_option linter.unusedSimpArgs false
inductive Bd (σ ρ : Type) where
  | go (s : σ)
  | brk (s : σ)
  | ret (r : ρ)
inductive Out (σ ρ : Type) where
  | brk (s : σ)
  | ret (r : ρ)
def loopR {σ ρ : Type} (c : Nat → σ → Bool) (b : Nat → σ → Bd σ ρ) : Nat → Nat → σ → Out σ ρ
  | 0, _, s => .brk s
  | f + 1, k, s => bif c k s then (match b k s with
    | .go s' => loopR c b f (k + 1) s'
    | .brk s' => .brk s'
    | .ret r => .ret r) else .brk s
section
variable {σ ρ : Type} {c : Nat → σ → Bool} {b : Nat → σ → Bd σ ρ} {N k : Nat} {s s' : σ} {r : ρ} {R : Out σ ρ}
theorem loopR_step (hk : k < N) (hc : c k s = true) : loopR c b (N - k) k s = (match b k s with
    | .go s' => loopR c b (N - (k + 1)) (k + 1) s'
    | .brk s' => .brk s'
    | .ret r => .ret r) := by
  obtain ⟨f, hf⟩ : ∃ f, N - k = f + 1 := ⟨N - k - 1, by omega⟩
  have hf' : N - (k + 1) = f := by omega
  rw [hf, hf']
  simp only [loopR, hc, cond_true]
theorem loopR_go (hi : loopR c b (N - k) k s = R) (hk : k < N) (hc : c k s = true) (hb : b k s = .go s') : loopR c b (N - (k + 1)) (k + 1) s' = R := by
  rw [← hi, loopR_step hk hc, hb]
theorem loopR_ret (hi : loopR c b (N - k) k s = R) (hk : k < N) (hc : c k s = true) (hb : b k s = .ret r) : R = .ret r := by
  rw [← hi, loopR_step hk hc, hb]
theorem loopR_end (hi : loopR c b (N - k) k s = R) (hc : c k s = false) : R = .brk s := by
  rw [← hi]
  cases N - k with
  | zero => rfl
  | succ f => simp only [loopR, hc, cond_false]
end
theorem reads_nil {w : World} {sz : Nat} {α : Type} {enc : α → List Value} {z : α} : Reads w (.slice none 0 0) sz ([] : List α) enc z := ⟨none, 0, rfl, Nat.le_refl _, Nat.zero_le _, fun h => absurd h (by simp)⟩
section
variable {P : Program} {tt : TT} {cx : Cx} {s s' : AS} {Q : Exit → AS → Prop}
def LA {σ ρ : Type} (cx : Cx) (id : Nat) (c : Nat → σ → Bool) (b : Nat → σ → Bd σ ρ) (N : Nat) (R : Out σ ρ) (cv : Nat → Int) (I : Int → σ → AS) (E : σ → AS) (pre : Nat → σ → Prop) (k : Nat) (Q : Exit → AS → Prop) : Exit → AS → Prop
  | .normal, s' => k < N ∧ ∃ ci v', ci = cv (k + 1) ∧ loopR c b (N - (k + 1)) (k + 1) v' = R ∧ pre (k + 1) v' ∧ Le cx s' (I ci v')
  | .exit i, s' => if i = id then ∃ v', R = .brk v' ∧ (∃ k', k' ≤ N ∧ pre k' v') ∧ Le cx s' (E v') else Q (.exit i) s'
  | e, s' => Q e s'
theorem WP_loopA {σ ρ : Type} {id : Nat} {body : Code} (c : Nat → σ → Bool) (b : Nat → σ → Bd σ ρ) (N : Nat) (v0 : σ) (cv : Nat → Int) (I : Int → σ → AS) (E : σ → AS) (pre : Nat → σ → Prop)
    (h0 : pre 0 v0) (hl : ∃ ci, ci = cv 0 ∧ Le cx s (I ci v0)) (hb : ∀ k v, k ≤ N → pre k v → loopR c b (N - k) k v = loopR c b N 0 v0 → ∀ Q', Q' = LA cx id c b N (loopR c b N 0 v0) cv I E pre k Q → (∀ s, ¬ Q' .outgrown s) → WP P cx (I (cv k) v) body Q')
    (hQ : ∀ v, loopR c b N 0 v0 = .brk v → (∃ k', k' ≤ N ∧ pre k' v) → ∀ s', Le cx s' (E v) → Q .normal s')
    (ho : ∀ s, ¬ Q .outgrown s := by first | exact fun _ h => h | assumption) : WP P cx s (.block id (.loop body)) Q := by
  obtain ⟨ci, hci, hl⟩ := hl
  refine WP_block (WP_loop (σ := Nat × Int × σ) (fun x => I x.2.1 x.2.2) (fun x => x.1 ≤ N ∧ x.2.1 = cv x.1 ∧ pre x.1 x.2.2 ∧ loopR c b (N - x.1) x.1 x.2.2 = loopR c b N 0 v0) (fun x => N - x.1) (0, ci, v0) ⟨Nat.zero_le _, hci, h0, rfl⟩ hl ?_)
  rintro ⟨k, ci, v⟩ ⟨hk, hci, hp, hR⟩
  simp only at hk hci hp hR
  subst hci
  refine (hb k v hk hp hR _ rfl (fun s h => ho s h)).mono fun e s' h => ?_
  cases e with
  | normal =>
    obtain ⟨hlt, ci, v', h1, h2, h3, h4⟩ := h
    exact ⟨(k + 1, ci, v'), ⟨hlt, h1, h3, h2⟩, by simp only; omega, h4⟩
  | exit i =>
    simp only [Nx, Blk]
    simp only [LA] at h
    split
    · rename_i hi; rw [if_pos hi] at h; obtain ⟨v', h1, h2, h3⟩ := h; exact hQ v' h1 h2 s' h3
    · rename_i hi; rw [if_neg hi] at h; exact h
  | _ => exact h
section
variable {Q' : Exit → AS → Prop} {σ ρ : Type} {id i : Nat} {c : Nat → σ → Bool} {b : Nat → σ → Bd σ ρ} {N : Nat} {R : Out σ ρ} {cv : Nat → Int} {I : Int → σ → AS} {E : σ → AS} {pre : Nat → σ → Prop} {k : Nat}
theorem LA_go (hQ : Q' = LA cx id c b N R cv I E pre k Q) {ci : Int} (v' : σ) (h1 : k < N) (h2 : ci = cv (k + 1)) (h3 : loopR c b (N - (k + 1)) (k + 1) v' = R) (h4 : pre (k + 1) v') (h5 : Le cx s' (I ci v')) : Q' .normal s' := hQ ▸ ⟨h1, ci, v', h2, h3, h4, h5⟩
theorem LA_exit (hQ : Q' = LA cx id c b N R cv I E pre k Q) (v' : σ) (h1 : R = .brk v') (h3 : ∃ k', k' ≤ N ∧ pre k' v') (h2 : Le cx s' (E v')) : Q' (.exit id) s' := by
  subst hQ
  simp only [LA, if_pos]
  exact ⟨v', h1, h3, h2⟩
theorem LA_ret (hQ : Q' = LA cx id c b N R cv I E pre k Q) (h : Q .ret s') : Q' .ret s' := hQ ▸ h
end
end
end Go.Proofs.YtamimgmoomcipaaDoor.Eng
namespace Go.Proofs.YtamimgmoomcipaaDoor.Eng
open Go Go.RowKit
set_option linter.unusedVariables false
set_option linter.unusedSimpArgs false
def eqTg : List (Nat × Bool) → List (Nat × Bool) → Bool
  | [], [] => true
  | x :: r, y :: q => Nat.beq x.1 y.1 && (x.2 == y.2) && eqTg r q
  | _, _ => false
theorem eqTg_eq : ∀ {a b : List (Nat × Bool)}, eqTg a b = true → a = b
  | [], [], _ => rfl
  | x :: r, y :: q, h => by
    simp only [eqTg, Bool.and_eq_true, beq_iff_eq] at h
    rw [eqTg_eq h.2]
    congr 1
    exact Prod.ext (Nat.eq_of_beq_eq_true h.1.1) h.1.2
def cndT (s : AS) : List (Nat × Bool) → Option Bool
  | [] => some true
  | (t, b) :: r => match look s.env t with
    | some (tg, .s (.bool g)) => bif eqTg tg r then (cndT s r).map (fun c => c && (g == b)) else none
    | _ => none
theorem cndT_spec {n : Vn} {s : AS} {a : Act} (henv : ∀ x ∈ s.env, EntOk n s a x) : ∀ {T : List (Nat × Bool)} {c : Bool}, cndT s T = some c → (Holds a T ↔ c = true)
  | [], c, h => by
    cases h
    exact ⟨fun _ => rfl, fun _ x hx => by cases hx⟩
  | (t, b) :: r, c, h => by
    simp only [cndT] at h
    split at h
    · rename_i tg g hl
      rcases hb : eqTg tg r with _ | _
      · rw [hb] at h; cases h
      · rw [hb] at h
        simp only [cond_true] at h
        obtain ⟨c', hc', rfl⟩ := Option.map_eq_some_iff.1 h
        have ih := cndT_spec henv hc'
        have htg := eqTg_eq hb
        subst htg
        have he := henv _ (look_mem hl)
        have hsplit : Holds a ((t, b) :: tg) ↔ (a.tmps.getD t undef = .bool b ∧ Holds a tg) := by
          constructor
          · exact fun h => ⟨h (t, b) List.mem_cons_self, fun x hx => h x (List.mem_cons_of_mem _ hx)⟩
          · rintro ⟨h1, h2⟩ x hx
            rcases List.mem_cons.1 hx with rfl | hx
            · exact h1
            · exact h2 x hx
        rw [hsplit, Bool.and_eq_true, beq_iff_eq, ← ih]
        constructor
        · rintro ⟨h1, h2⟩
          refine ⟨h2, ?_⟩
          have := (he.yes h2).1
          simp only [AV.c, AC.c] at this
          rw [h1] at this
          cases this; rfl
        · rintro ⟨h1, h2⟩
          refine ⟨?_, h1⟩
          have := (he.yes h1).1
          simp only [AV.c, AC.c] at this
          rw [this, h2]
    · cases h
section
variable {P : Program} {tt : TT} {cx : Cx} {s s' : AS} {Q : Exit → AS → Prop} {ops : Array Oper} {l : List Oper}
theorem CALLO (k : FuncId) (vs : List AV) (r : AV) (e : TypeId) (sz : Nat) {α : Type} (li : List α) (enc : α → List Value) (z : α) (nx : Nat) (hnx : s.nx = nx) (h : (callA ops s l).map (fun x => (x.1, x.2.1, x.2.2.2.2)) = some (k, vs, [])) (hgo : goes P k)
    (hp : (callPN ops s l (s.add (.sl .own e sz li enc z)) r).isSome = true) (hr : okB (s.add (.sl .own e sz li enc z)) r = true) (henc : ∀ y, (enc y).length = sz)
    (hcall : ∀ n w, HSat cx n s w → Calls P k (vs.map (AV.c n)).toArray w fun e' w' => ∃ v, e' = .returned (r.c (upd n nx v)) ∧ Below w.heap.size w w' ∧ w'.ownsRow w.heap.size e sz v li.length (flat li enc))
    (hK : WPO P cx ops l.tail ((callPN ops s l (s.add (.sl .own e sz li enc z)) r).getD s) Q) : WPO P cx ops l s Q := by
  subst hnx
  obtain ⟨⟨k', vs', G', d, T⟩, hr', he'⟩ := Option.map_eq_some_iff.1 h
  simp only [Prod.mk.injEq] at he'
  obtain ⟨rfl, rfl, rfl⟩ := he'
  exact CALLN k' vs' _ r (by rw [hr']; rfl) hgo hp hr (More.add _ _) ⟨rfl, rfl, rfl⟩ (CallOk.newO henc hcall) hK
theorem CALLR (k : FuncId) (vs : List AV) (r : AV) (e : TypeId) (sz : Nat) {α : Type} (li : List α) (enc : α → List Value) (z : α) (nx : Nat) (hnx : s.nx = nx) (h : (callA ops s l).map (fun x => (x.1, x.2.1, x.2.2.2.2)) = some (k, vs, [])) (hgo : goes P k)
    (hp : (callPN ops s l (s.add (.sl .ro e sz li enc z)) r).isSome = true) (hr : okB (s.add (.sl .ro e sz li enc z)) r = true) (hsz : 0 < sz) (henc : ∀ y, (enc y).length = sz)
    (hcall : ∀ n w, HSat cx n s w → Calls P k (vs.map (AV.c n)).toArray w fun e' w' => ∃ v, e' = .returned (r.c (upd n nx v)) ∧ Below w.heap.size w w' ∧ Reads w' v sz li enc z ∧ (∀ g, vblk v = some g → 0 < li.length → w.heap.size ≤ g))
    (hK : WPO P cx ops l.tail ((callPN ops s l (s.add (.sl .ro e sz li enc z)) r).getD s) Q) : WPO P cx ops l s Q := by
  subst hnx
  obtain ⟨⟨k', vs', G', d, T⟩, hr', he'⟩ := Option.map_eq_some_iff.1 h
  simp only [Prod.mk.injEq] at he'
  obtain ⟨rfl, rfl, rfl⟩ := he'
  exact CALLN k' vs' _ r (by rw [hr']; rfl) hgo hp hr (More.add _ _) ⟨rfl, rfl, rfl⟩ (CallOk.newR hsz henc hcall) hK
end
end Go.Proofs.YtamimgmoomcipaaDoor.Eng
namespace Go.Proofs.YtamimgmoomcipaaDoor.Eng
set_option linter.unusedVariables false
set_option linter.unusedSimpArgs false
section
variable {σ ρ : Type} {c : Nat → σ → Bool} {b : Nat → σ → Bd σ ρ} {N : Nat}
theorem loopR_foldl (st : Nat → σ → σ) (hc : ∀ k v, k < N → c k v = true) (hb : ∀ k v, k < N → b k v = .go (st k v)) (v0 : σ) : loopR c b N 0 v0 = .brk ((List.range N).foldl (fun v k => st k v) v0) := by
  have key : ∀ (m k : Nat) (v : σ), k + m = N → loopR c b (N - k) k v = .brk ((List.range' k m).foldl (fun v k => st k v) v) := by
    intro m
    induction m with
    | zero => intro k v h; rw [show N - k = 0 by omega]; rfl
    | succ m ih =>
      intro k v h
      rw [loopR_step (by omega) (hc k v (by omega)), hb k v (by omega)]
      simp only [List.range'_succ, List.foldl_cons]
      exact ih (k + 1) _ (by omega)
  have := key N 0 v0 (by omega)
  rwa [← List.range_eq_range'] at this
theorem loopR_app {α : Type} {b : Nat → List α → Bd (List α) ρ} {c : Nat → List α → Bool} (g : Nat → List α) (hc : ∀ k v, k < N → c k v = true) (hb : ∀ k v, k < N → b k v = .go (v ++ g k)) (v0 : List α) : loopR c b N 0 v0 = .brk (v0 ++ (List.range N).flatMap g) := by
  rw [loopR_foldl (fun k v => v ++ g k) hc hb]
  congr 1
  generalize List.range N = l
  induction l generalizing v0 with
  | nil => simp
  | cons x r ih => simp only [List.foldl_cons, List.flatMap_cons]; rw [ih, List.append_assoc]
end
end Go.Proofs.YtamimgmoomcipaaDoor.Eng
namespace Go.Proofs.YtamimgmoomcipaaDoor.Eng
open Go Go.RowKit
set_option linter.unusedVariables false
set_option linter.unusedSimpArgs false
section
variable {P : Program} {ops : Array Oper} {md : Region.Mode} {C : World → Prop}
def waitsM (md : Region.Mode) (ops : Array Oper) (m : Nat) : Bool := (List.range' m (ops.size - m)).all fun j => match ops[j]? with
  | some o => (List.range m).all fun i => o.after.any fun e => Region.binds md e && Nat.beq e.on i
  | none => true
theorem waits_lt {m : Nat} (hw : waitsM md ops m = true) {listed : Array Bool} {i j : Nat} (hi : listed.getD i true = false) (him : i < m) (hj : j ∈ Region.ready md ops listed) : j < m := by
  rcases Nat.lt_or_ge j m with h | h
  · exact h
  · exfalso
    obtain ⟨_, o, ho, hall⟩ := mem_ready.1 hj
    have hjs : j < ops.size := (Array.getElem?_eq_some_iff.1 ho).1
    have h1 := List.all_eq_true.1 hw j (List.mem_range'.2 ⟨j - m, by omega, by omega⟩)
    rw [ho] at h1
    simp only at h1
    have h2 := List.all_eq_true.1 h1 i (List.mem_range.2 him)
    obtain ⟨e, he, hb⟩ := Array.any_eq_true'.1 h2
    simp only [Bool.and_eq_true] at hb
    have h3 := hall e he hb.1
    rw [Nat.eq_of_beq_eq_true hb.2] at h3
    rcases Nat.lt_or_ge i listed.size with h' | h'
    · simp [h'] at hi h3; rw [hi] at h3; cases h3
    · simp [Array.getElem?_eq_none h'] at h3
end
section
variable {P : Program} {tt : TT} {cx : Cx} {s s' : AS} {Q : Exit → AS → Prop} {ops : Array Oper}
def MQ (P : Program) (cx : Cx) (ops : Array Oper) (drop : List Nat) (f2 : Nat) (L : Array Bool) (Q : Exit → AS → Prop) : Exit → AS → Prop
  | .normal, s' => uniq s'.hp = true ∧ WPH P cx ops (s'.kept drop) f2 L s' Q
  | _, _ => False
end
end Go.Proofs.YtamimgmoomcipaaDoor.Eng
namespace Go.Proofs.YtamimgmoomcipaaDoor.Eng
open Go Go.RowKit
set_option linter.unusedVariables false
set_option linter.unusedSimpArgs false
section
variable {P : Program} {ops : Array Oper} {md : Region.Mode}
def downM (ops : Array Oper) (m : Nat) : Bool := (List.range m).all fun i => match ops[i]? with
  | some o => (o.after.all fun e => Nat.ble (e.on + 1) i) && (match o.guard with | some (j, _) => Nat.ble (j + 1) m | none => true)
  | none => false
structure RelM (ops : Array Oper) (m : Nat) (li l1 : Array Bool) : Prop where
  size : l1.size = m
  size2 : li.size = ops.size
  same : ∀ i, i < m → li[i]? = l1[i]?
  rest : ∀ i, m ≤ i → i < ops.size → li[i]? = some false
theorem RelM.set {m i : Nat} {li l1 : Array Bool} (h : RelM ops m li l1) (hi : i < m) (hm : m ≤ ops.size) : RelM ops m (li.setIfInBounds i true) (l1.setIfInBounds i true) := by
  refine ⟨by simp [h.size], by simp [h.size2], fun j hj => ?_, fun j h1 h2 => ?_⟩
  · by_cases hij : i = j
    · subst hij
      rw [Array.getElem?_setIfInBounds_self_of_lt (by rw [h.size2]; omega), Array.getElem?_setIfInBounds_self_of_lt (by rw [h.size]; omega)]
    · rw [Array.getElem?_setIfInBounds_ne hij, Array.getElem?_setIfInBounds_ne hij]; exact h.same j hj
  · rw [Array.getElem?_setIfInBounds_ne (by omega)]; exact h.rest j h1 h2
theorem getD_q {li : Array Bool} {i : Nat} {d : Bool} : li.getD i d = (li[i]?).getD d := by
  simp
theorem extract_get {m i : Nat} (hi : i < m) (hm : m ≤ ops.size) : (ops.extract 0 m)[i]? = ops[i]? := by
  rw [Array.getElem?_extract]
  rw [if_pos (by omega)]; simp
theorem ready_down {m : Nat} (hm : m ≤ ops.size) (hd : downM ops m = true) {li l1 : Array Bool} (h : RelM ops m li l1) (hw : waitsM md ops m = true) (hu : ∃ i, i < m ∧ li.getD i true = false) : ∀ j, j ∈ Region.ready md ops li → j < m ∧ j ∈ Region.ready md (ops.extract 0 m) l1 := fun j hj => by
  obtain ⟨i, hi, hun⟩ := hu
  have hjm := waits_lt hw hun hi hj
  refine ⟨hjm, ?_⟩
  rw [mem_ready] at hj ⊢
  obtain ⟨h1, o, ho, hall⟩ := hj
  refine ⟨by rw [getD_q, ← h.same j hjm, ← getD_q]; exact h1, o, by rw [extract_get hjm hm]; exact ho, fun e he hb => ?_⟩
  have h2 := List.all_eq_true.1 hd j (List.mem_range.2 hjm)
  rw [ho] at h2
  simp only [Bool.and_eq_true] at h2
  have h3 := Nat.le_of_ble_eq_true (Array.all_eq_true'.1 h2.1 e he)
  have h4 := hall e he hb
  rw [getD_q, ← h.same e.on (by omega), ← getD_q]
  exact h4
theorem ready_some {m : Nat} (hm : m ≤ ops.size) (hd : downM ops m = true) {li : Array Bool} : ∀ (i : Nat), i < m → li.getD i true = false → Region.ready md ops li ≠ [] := by
  intro i
  induction i using Nat.strongRecOn with
  | _ i ih =>
    intro hi hun
    have h2 := List.all_eq_true.1 hd i (List.mem_range.2 hi)
    obtain ⟨o, ho⟩ : ∃ o, ops[i]? = some o := ⟨ops[i], Array.getElem?_eq_getElem (by omega)⟩
    rw [ho] at h2
    simp only [Bool.and_eq_true] at h2
    by_cases hall : ∀ e ∈ o.after, Region.binds md e = true → li.getD e.on false = true
    · intro h0
      have : i ∈ Region.ready md ops li := mem_ready.2 ⟨hun, o, ho, hall⟩
      rw [h0] at this; cases this
    · simp only [Classical.not_forall] at hall
      obtain ⟨e, he, hb, hne⟩ := hall
      have h3 := Nat.le_of_ble_eq_true (Array.all_eq_true'.1 h2.1 e he)
      refine ih e.on (by omega) (by omega) ?_
      rcases Nat.lt_or_ge e.on li.size with hlt | hge
      · rw [getD_q, Array.getElem?_eq_getElem hlt] at hne ⊢
        simpa using hne
      · exfalso
        rw [getD_q, Array.getElem?_eq_none (by omega)] at hun
        cases hun
theorem wanted_ext {m : Nat} {o : Oper} {tmps : Array Value} (hm : m ≤ ops.size) (hg : (match o.guard with | some (j, _) => Nat.ble (j + 1) m | none => true) = true) : Region.wanted o (yielded (ops.extract 0 m) tmps) = Region.wanted o (yielded ops tmps) := by
  unfold Region.wanted
  cases hgu : o.guard with
  | none => rfl
  | some p =>
    obtain ⟨j, b⟩ := p
    rw [hgu] at hg
    have hj := Nat.le_of_ble_eq_true hg
    simp only
    have : yielded (ops.extract 0 m) tmps j = yielded ops tmps j := by
      unfold yielded
      rw [extract_get (by omega) hm]
    rw [this]
theorem wpAny_of_HM {m f2 : Nat} {S : World → Prop} {Q1 Q' : Exit → Act → World → Prop} (hm : m ≤ ops.size) (hd : downM ops m = true) (hw : waitsM md ops m = true) (hq : ∀ c a w, ¬ Q1 (.panic c) a w) (hl : ¬ LetsOut Q1)
    (hK : ∀ li a w, RelM ops m li (Array.replicate m true) → Q1 .normal a w → wpAny P md ops Q' f2 li a w) : ∀ (fuel : Nat) (li l1 : Array Bool) (a : Act) (w : World), RelM ops m li l1 → ((List.range m).countP fun i => !l1.getD i true) = fuel → wpAnyH P md (ops.extract 0 m) Q1 S fuel l1 a w → wpAny P md ops Q' (f2 + fuel) li a w
  | 0, li, l1, a, w, hr, hc, h => by
    refine hK _ _ _ ?_ h.2
    have h0 := List.countP_eq_zero.1 hc
    have e : l1 = Array.replicate m true := by
      apply Array.ext
      · simp [hr.size]
      · intro i h1 h2
        have := h0 i (List.mem_range.2 (by rw [← hr.size]; exact h1))
        rw [getD_q, Array.getElem?_eq_getElem h1] at this
        simpa using this
    rw [← e]; exact hr
  | fuel + 1, li, l1, a, w, hr, hc, h => by
    obtain ⟨i, hi, hiu⟩ : ∃ i, i < m ∧ l1.getD i true = false := by
      obtain ⟨i, hi, hp⟩ := List.countP_pos_iff.1 (show 0 < (List.range m).countP fun i => !l1.getD i true by omega)
      exact ⟨i, List.mem_range.1 hi, by simpa using hp⟩
    have hiu' : li.getD i true = false := by rw [getD_q, hr.same i hi, ← getD_q]; exact hiu
    refine ⟨fun h0 => absurd h0 (ready_some hm hd i hi hiu'), fun j hj => ?_⟩
    obtain ⟨hjm, hj1⟩ := ready_down hm hd hr hw ⟨i, hi, hiu'⟩ j hj
    have hju := (mem_ready.1 hj1).1
    have h1 := h.2 j hj1
    have hc' : ((List.range m).countP fun i => !(l1.setIfInBounds j true).getD i true) = fuel := by
      have key : ∀ (n : Nat), n ≤ m → ((List.range n).countP fun i => !l1.getD i true) = ((List.range n).countP fun i => !(l1.setIfInBounds j true).getD i true) + (if j < n then 1 else 0) := by
        intro n
        induction n with
        | zero => intro _; simp
        | succ n ih =>
          intro hn
          rw [List.range_succ, List.countP_append, List.countP_append, ih (by omega)]
          simp only [List.countP_singleton]
          by_cases hjn : j = n
          · subst hjn
            have e1 : (l1.setIfInBounds j true).getD j true = true := by
              rw [getD_q, Array.getElem?_setIfInBounds_self_of_lt (by rw [hr.size]; omega)]; rfl
            rw [hju, e1]; simp
          · rw [getD_set_ne true hjn]
            by_cases h3 : j < n
            · rw [if_pos h3, if_pos (show j < n + 1 by omega)]; omega
            · rw [if_neg h3, if_neg (show ¬ j < n + 1 by omega)]; omega
      have := key m (Nat.le_refl _)
      rw [if_pos hjm] at this
      omega
    have hk : ∀ a' w', (S w' ∧ wpAnyH P md (ops.extract 0 m) Q1 S fuel (l1.setIfInBounds j true) a' w') → wpAny P md ops Q' (f2 + fuel) (li.setIfInBounds j true) a' w' := fun a' w' h => wpAny_of_HM hm hd hw hq hl hK fuel _ _ a' w' (hr.set hjm hm) hc' h.2
    unfold wpOp at h1 ⊢
    rw [extract_get hjm hm] at h1
    split
    · rename_i ho; rw [ho] at h1; exact hk _ _ h1
    · rename_i o ho
      rw [ho] at h1
      simp only at h1
      have h2 := List.all_eq_true.1 hd j (List.mem_range.2 hjm)
      rw [ho] at h2
      simp only [Bool.and_eq_true] at h2
      rw [wanted_ext hm h2.2] at h1
      split
      · rename_i hwa
        rw [if_pos hwa] at h1
        rcases h1 with h1 | h1
        · exact .inl (wp_mono2 hk hq hl h1)
        · exact absurd h1.2 hl
      · rename_i hwa
        rw [if_neg hwa] at h1
        exact hk _ _ h1
end
section
variable {P : Program} {tt : TT} {cx : Cx} {s s' : AS} {Q : Exit → AS → Prop} {ops : Array Oper}
def trueM (m n : Nat) : Array Bool := Array.replicate m true ++ Array.replicate n false
theorem WP_drawHM {id : Nat} (m : Nat) (drop1 drop : List Nat) (hm : P.follows .mixedOrders = true) (hc : (waitsM .any ops m && downM ops m && Nat.ble m ops.size && uniq s.hp) = true)
    (h : WPH P cx (ops.extract 0 m) (s.kept drop1) m (Array.replicate m false) s (MQ P cx ops drop (ops.size - m) (trueM m (ops.size - m)) Q)) (hd : noDefer ops = true := by kernel_rfl) : WP P cx s (.region id ops true) Q := fun r mm ht n a w hs => by
  simp only [Bool.and_eq_true] at hc
  obtain ⟨⟨⟨h1, h2⟩, h3⟩, h4⟩ := hc
  have h3 := Nat.le_of_ble_eq_true h3
  have hat := (hs.heap.at).same (w' := { w with drawn := w.drawn + 1 }) rfl rfl rfl rfl
  have hfz : Fz (s.kept drop1) s := Fz.kept (s := s) drop1 h4
  have hW := h hfz n hs.heap.ini hs.heap.inx hs.heap.one n a _ ⟨hat, hs.size, hs.env, hs.defers⟩ (hat.kept drop1 hfz)
  have key : wpAny P .any ops (PN cx Q) (ops.size - m + m) (Array.replicate ops.size false) a { w with drawn := w.drawn + 1 } := by
    refine wpAny_of_HM (Q1 := PN cx (MQ P cx ops drop (ops.size - m) (trueM m (ops.size - m)) Q)) h3 h2 h1 (fun c a w ⟨h, _⟩ => by cases h) (fun h => by obtain ⟨_, _, h, _⟩ := h; cases h) (fun li a' w' hr hq => ?_) m _ (Array.replicate m false) a _ ⟨by simp, by simp, fun i hi => by rw [Array.getElem?_replicate, Array.getElem?_replicate, if_pos (by omega), if_pos hi], fun i hi hi2 => by rw [Array.getElem?_replicate, if_pos hi2]⟩ ?_ hW
    · obtain ⟨_, n', s', ⟨hu, hW2⟩, hs'⟩ := hq
      have hfz2 := Fz.kept (s := s') drop hu
      have hat2 := hs'.heap.at
      have e : li = trueM m (ops.size - m) := by
        apply Array.ext
        · simp [trueM, hr.size2]; omega
        · intro i hi1 hi2
          rw [hr.size2] at hi1
          have e1 : li[i]? = (trueM m (ops.size - m))[i]? := by
            by_cases him : i < m
            · rw [hr.same i him]
              simp [trueM, him, Array.getElem?_append]
            · rw [hr.rest i (by omega) hi1]
              unfold trueM
              rw [Array.getElem?_append_right (by simp; omega)]
              rw [Array.getElem?_replicate, if_pos (by simp; omega)]
          rw [Array.getElem?_eq_getElem (by rw [hr.size2]; exact hi1), Array.getElem?_eq_getElem hi2] at e1
          simpa using e1
      rw [e]
      exact wpAny_of_held _ _ _ _ (hW2 hfz2 n' hs'.heap.ini hs'.heap.inx hs'.heap.one n' a' w' ⟨hat2, hs'.size, hs'.env, hs'.defers⟩ (hat2.kept drop hfz2))
    · have : ∀ k, k ≤ m → ((List.range k).countP fun i => !(Array.replicate m false).getD i true) = k := by
        intro k
        induction k with
        | zero => intro _; rfl
        | succ k ih =>
          intro hk
          rw [List.range_succ, List.countP_append, ih (by omega)]
          simp only [List.countP_singleton]
          rw [getD_q, Array.getElem?_replicate, if_pos (show k < m by omega)]; rfl
      exact this m (Nat.le_refl _)
  rw [show ops.size - m + m = ops.size by omega] at key
  exact wpIn_mono (wpIn_region_any hm (wpAny_in hd (fun h => by obtain ⟨_, _, h, _⟩ := h; cases h) _ _ _ _ key)) fun e a w h => h.2
end
end Go.Proofs.YtamimgmoomcipaaDoor.Eng
namespace Go.Proofs.YtamimgmoomcipaaDoor.Eng
open Go Go.RowKit
set_option linter.unusedVariables false
set_option linter.unusedSimpArgs false
theorem More.trans {s1 s2 s3 : AS} (h : More s1 s2) (k : More s2 s3) : More s1 s3 := ⟨Nat.le_trans h.nx k.nx, fun id hid e he => by
  obtain ⟨e0, h0, hl0⟩ := k.fnd id (Nat.lt_of_lt_of_le hid h.nx) e he
  obtain ⟨e1, h1, hl1⟩ := h.fnd id hid e0 h0
  exact ⟨e1, h1, Nat.le_trans hl1 hl0⟩⟩
section
variable {P : Program} {tt : TT} {cx : Cx} {s s' : AS} {Q : Exit → AS → Prop} {ops : Array Oper} {l : List Oper}
theorem CALLMAPS (k : FuncId) (vs : List AV) (r : AV) (e : TypeId) (enc : Nat → List Value) (F : List Nat → World → Prop) (nx : Nat) (hnx : s.nx = nx) (hj : noJO s.hp = true) (h : (callA ops s l).map (fun x => (x.1, x.2.1, x.2.2.2.2)) = some (k, vs, [])) (hgo : goes P k)
    (hp : ∀ m, (callPN ops s l ((s.add (.sl .own e 1 m enc 0)).add (.pf (F m) (· ∈ m))) r).isSome = true) (hr : ∀ m, okB ((s.add (.sl .own e 1 m enc 0)).add (.pf (F m) (· ∈ m))) r = true) (henc : ∀ y, (enc y).length = 1)
    (hst : ∀ m w1 w2, F m w1 → (∀ g, g ∈ m → w2.heap[g]? = w1.heap[g]?) → F m w2) (hF : ∀ m w, F m w → ∀ g, g ∈ m → ∃ es clk, w.heap[g]? = some (.map es clk))
    (hcall : ∀ n w, HSat cx n s w → Calls P k (vs.map (AV.c n)).toArray w fun e' w' => ∃ cv m, e' = .returned (r.c (upd (upd n nx cv) (nx + 1) .nilFunc)) ∧ Below w.heap.size w w' ∧ w'.ownsRow w.heap.size e 1 cv m.length (flat m enc) ∧ F m w')
    (hK : ∀ m, WPO P cx ops l.tail ((callPN ops s l ((s.add (.sl .own e 1 m enc 0)).add (.pf (F m) (· ∈ m))) r).getD s) Q) : WPO P cx ops l s Q := by
  subst hnx
  refine CALLX (σ := List Nat) k vs (fun m => (s.add (.sl .own e 1 m enc 0)).add (.pf (F m) (· ∈ m))) (fun _ => r) h hgo hp hr (fun m => More.trans (More.add s _) (More.add _ _)) (fun m => ⟨rfl, rfl, rfl⟩) (fun n w hh => (hcall n w hh).mono fun e' w' ⟨cv, m, h1, h2, h3, h5⟩ => ⟨m, upd (upd n s.nx cv) (s.nx + 1) .nilFunc, fun id hid => ?_, h1, ?_⟩) hK
  · rw [upd_lt _ _ _ _ (Nat.lt_succ_of_lt hid), upd_lt _ _ _ _ hid]
  · have hb : ∀ g, vblk cv = some g → w.heap.size ≤ g ∧ g < w'.heap.size := fun g hg => by
      rcases h3.2 with ⟨rfl, _⟩ | ⟨g', cap, cur, rfl, hb, hh, _⟩
      · cases hg
      · cases hg; exact ⟨hb, (Array.getElem?_eq_some_iff.1 hh).1⟩
    have ha := hh.add (e := .sl .own e 1 m enc 0) (v := cv) h2 (by rcases h3.2 with ⟨rfl, _⟩ | ⟨g', cap, cur, rfl, _⟩ <;> rfl) ⟨henc, fun g hg => hh.fr.news g (Nat.le_trans hh.fr.size (hb g hg).1), h3.1, h3.2.imp (fun h => h) fun ⟨g, cap, cur, h1, _, h3⟩ => ⟨g, cap, cur, h1, Nat.zero_le _, h3⟩⟩ trivial (fun g hg => (hb g hg).2) (fun g hg => .inl (hb g hg).1)
    have hj2 : noJO (s.add (.sl .own e 1 m enc 0)).hp = true := hj
    exact ha.addMaps (Below.refl _ _) hj2 h5 (hst m) (hF m w' h5)
end
end Go.Proofs.YtamimgmoomcipaaDoor.Eng
namespace Go.Proofs.YtamimgmoomcipaaDoor.Eng
open Go Go.RowKit
set_option linter.unusedVariables false
set_option linter.unusedSimpArgs false
section
variable {P : Program} {tt : TT} {cx : Cx} {s s0 s' : AS} {Q : Exit → AS → Prop} {ops : Array Oper} {l : List Oper}
def JX {σ : Type} (cx : Cx) (S : σ → AS) (Q : Exit → AS → Prop) : Exit → AS → Prop
  | .normal, s => ∃ x, Le cx s (S x)
  | e, s => Q e s
theorem WP_toX {σ : Type} {c : Code} (S : σ → AS) (h : WP P cx s c (JX cx S Q)) (hK : ∀ x, Q .normal (S x)) : WP P cx s c Q := fun r m ht n a w hs =>
  wpIn_mono (h r m ht n a w hs) fun e a w ⟨n', s', hq, hs'⟩ => by
    cases e with
    | normal =>
      obtain ⟨x, hl⟩ := hq
      obtain ⟨n2, hs2⟩ := hl n' a w hs'
      exact ⟨n2, S x, hK x, hs2⟩
    | _ => exact ⟨n', s', hq, hs'⟩
theorem H_two (i j : Nat) {fuel : Nat} {listed : Array Bool} (hr : Region.ready .any ops listed = [i, j]) (hi : (opAt ops i).isEmpty = false) (hj : (opAt ops j).isEmpty = false)
    (h1 : Fz s0 s → ∀ cx' : Cx, cx'.w0 = cx.w0 → (cx'.ok = cx.ok ∧ (∀ id, id < cx.m0 → cx'.n0 id = cx.n0 id) ∧ cx.m0 ≤ cx'.m0) → WPO P cx' ops (opAt ops i) s (fun e s' => e = .normal ∧ Fz s0 s' ∧ WPH P cx ops s0 fuel (listed.setIfInBounds i true) s' Q))
    (h2 : Fz s0 s → ∀ cx' : Cx, cx'.w0 = cx.w0 → (cx'.ok = cx.ok ∧ (∀ id, id < cx.m0 → cx'.n0 id = cx.n0 id) ∧ cx.m0 ≤ cx'.m0) → WPO P cx' ops (opAt ops j) s (fun e s' => e = .normal ∧ Fz s0 s' ∧ WPH P cx ops s0 fuel (listed.setIfInBounds j true) s' Q)) : WPH P cx ops s0 (fuel + 1) listed s Q := fun hfz n0 h3 h4 one n a w hst hS => by
  refine wpAnyH_all hr (by simp) fun k hk => ?_
  have key : ∀ i, (opAt ops i).isEmpty = false → (Fz s0 s → ∀ cx' : Cx, cx'.w0 = cx.w0 → (cx'.ok = cx.ok ∧ (∀ id, id < cx.m0 → cx'.n0 id = cx.n0 id) ∧ cx.m0 ≤ cx'.m0) → WPO P cx' ops (opAt ops i) s (fun e s' => e = .normal ∧ Fz s0 s' ∧ WPH P cx ops s0 fuel (listed.setIfInBounds i true) s' Q)) →
      wpOp P ops (PN cx Q) i (fun a' w' => HSat (cxAt cx n0 s0.nx) n0 s0 w' ∧ wpAnyH P .any ops (PN cx Q) (HSat (cxAt cx n0 s0.nx) n0 s0) fuel (listed.setIfInBounds i true) a' w') a w := fun i hi h => by
    obtain ⟨o, ho⟩ : ∃ o, ops[i]? = some o := by
      unfold opAt at hi
      cases ho : ops[i]? with
      | none => rw [ho] at hi; cases hi
      | some o => exact ⟨o, rfl⟩
    have hl1 : opAt ops i = [o] := by unfold opAt; rw [ho]; rfl
    have := h hfz (cxAt cx n0 s0.nx) rfl ⟨rfl, h3, h4⟩ n a w hst
    rw [hl1] at this
    unfold wpOp
    rw [ho]
    simp only
    have hk : ∀ a w, Post (cxAt cx n0 s0.nx) (fun e s' => e = .normal ∧ Fz s0 s' ∧ WPH P cx ops s0 fuel (listed.setIfInBounds i true) s' Q) .normal a w →
        (HSat (cxAt cx n0 s0.nx) n0 s0 w ∧ wpAnyH P .any ops (PN cx Q) (HSat (cxAt cx n0 s0.nx) n0 s0) fuel (listed.setIfInBounds i true) a w) := fun a w ⟨n', s', ⟨_, hfz, hw⟩, hs'⟩ => by
      have hS' := hs'.heap.less hfz hS
      exact ⟨hS', hw hfz n0 h3 h4 one n' a w hs' hS'⟩
    have hq : ∀ c a w, ¬ Post (cxAt cx n0 s0.nx) (fun e s' => e = .normal ∧ Fz s0 s' ∧ WPH P cx ops s0 fuel (listed.setIfInBounds i true) s' Q) (.panic c) a w := fun c a w ⟨_, _, h, _⟩ => by cases h.1
    have hl : ¬ LetsOut (Post (cxAt cx n0 s0.nx) (fun e s' => e = .normal ∧ Fz s0 s' ∧ WPH P cx ops s0 fuel (listed.setIfInBounds i true) s' Q)) := fun h => by
      obtain ⟨_, _, _, _, h, _⟩ := h
      cases h.1
    unfold wpList at this
    split
    · rename_i hw
      rw [if_pos hw] at this
      rcases this with h | h
      · exact .inl (wp_mono2 (fun a w h => hk a w h) hq hl h)
      · exact absurd h.2 hl
    · rename_i hw
      rw [if_neg hw] at this
      exact hk _ _ this
  rcases List.mem_cons.1 hk with rfl | hk
  · exact key _ hi h1
  · rw [List.mem_singleton.1 hk]; exact key _ hj h2
end
end Go.Proofs.YtamimgmoomcipaaDoor.Eng
namespace Go.Proofs.YtamimgmoomcipaaDoor.Fw
open Go Go.RowKit Go.Proofs.YtamimgmoomcipaaDoor.Eng 
set_option linter.unusedVariables false
set_option linter.unusedSimpArgs false
def CanF (b : Book) (but : List Int) (maps : List Nat) (w : World) : Prop := maps.length = b.ships.length ∧ MapsAt b but maps w
abbrev pfK (b : Book) (but : List Int) (maps : List Nat) : HE := .pf (CanF b but maps) (· ∈ maps)
theorem CanF.stab {b : Book} {but : List Int} (m : List Nat) (w1 w2 : World) (h : CanF b but m w1) (hw : ∀ g, g ∈ m → w2.heap[g]? = w1.heap[g]?) : CanF b but m w2 := ⟨h.1, h.2.stab hw⟩
theorem CanF.maps {b : Book} {but : List Int} (m : List Nat) (w : World) (h : CanF b but m w) (g : Nat) (hg : g ∈ m) : ∃ es clk, w.heap[g]? = some (.map es clk) := by
  obtain ⟨q, hq, rfl⟩ := List.mem_iff_getElem.1 hg
  exact ⟨_, _, h.2 q hq⟩
theorem HSat_bookK {w : World} {sv gv cv : Value} {b : Book} {but : List Int} {maps : List Nat} (hb : BookAt w sv gv b) (h : CanAt w cv b but maps) (ha : AsksAt w) {nt : Nat} {e : List (Nat × List (Nat × Bool) × AV)} : HSat (cx0 w (vn [sv, gv, cv]) 3) (vn [sv, gv, cv]) ⟨nt, e, hpB b ++ [(2, .sl .ro 100 1 maps encM 0), (3, pfK b but maps), (4, .pf AsksAt (· = 0))], 5, []⟩ w :=
  HSat_args (vn_one (by simp [hb.ships.one, hb.sights.one, h.reads.one])) (by decide) ⟨⟨⟨fun _ => rfl, by decide, hb.ships⟩, (Nat.le_of_ble_eq_true rfl)⟩, ⟨⟨fun _ => rfl, by decide, hb.sights⟩, (Nat.le_of_ble_eq_true rfl)⟩, ⟨⟨fun _ => rfl, by decide, h.reads⟩, (Nat.le_of_ble_eq_true rfl)⟩, ⟨⟨⟨h.len, h.at'⟩, fun w1 w2 h1 hw => CanF.stab _ _ _ h1 hw, fun g hg => by
    obtain ⟨q, hq, rfl⟩ := List.mem_iff_getElem.1 hg
    exact (Array.getElem?_eq_some_iff.1 (h.at' q hq)).1⟩, (Nat.le_of_ble_eq_true rfl)⟩, ⟨⟨ha, fun w1 w2 h1 hw => (hw 0 rfl).trans h1, fun g hg => by cases hg; exact (Array.getElem?_eq_some_iff.1 ha).1⟩, (Nat.le_of_ble_eq_true rfl)⟩, trivial⟩
theorem HSat_toK {cx : Cx} {n : Vn} {s : AS} {w : World} {b : Book} {but : List Int} {maps : List Nat} (i j : Nat) (kd : SK) (h : HSat cx n s w) (h0 : fnd s.hp i = some (.sl kd 100 1 maps encM 0)) (h1 : fnd s.hp j = some (pfK b but maps)) : CanAt w (n i) b but maps := ⟨(h.ents _ (fnd_mem h1)).1.1, h.reads h0, (h.ents _ (fnd_mem h1)).1.2⟩
theorem some_callsI (sv gv cv : Value) (b : Book) (but : List Int) (maps : List Nat) (k first many : Int) (w : World) (hb : BookAt w sv gv b) (hm : CanAt w cv b but maps) (hk : 0 ≤ k ∧ k < b.ships.length) (h1 : 0 ≤ first ∧ 0 ≤ many ∧ first + many ≤ 201) : Calls Tryd.prog 81 #[bookV2 sv gv cv b, iv k, .agg #[iv first, iv many]] w fun e w' => e = .returned (.bool (someF b but k.toNat first.toNat many.toNat)) ∧ Below w.heap.size w w' := by
  have := some_calls sv gv cv b but maps k.toNat first.toNat many.toNat w hb hm (by omega) (by omega)
  rwa [Int.toNat_of_nonneg hk.1, Int.toNat_of_nonneg h1.1, Int.toNat_of_nonneg h1.2.1] at this
theorem near_callsI (sv gv cv : Value) (b : Book) (but : List Int) (maps : List Nat) (k first many : Int) (w : World) (hb : BookAt w sv gv b) (hm : CanAt w cv b but maps) (ha : AsksAt w) (hk : 0 ≤ k ∧ k < b.ships.length) (h1 : 0 ≤ first ∧ 0 ≤ many ∧ first + many ≤ 201) : Calls Tryd.prog 86 #[bookV2 sv gv cv b, iv k, .agg #[iv first, iv many]] w fun e w' => e = .returned (iv (near02 b but k.toNat first.toNat many.toNat)) ∧ Below w.heap.size w w' := by
  have := near_calls sv gv cv b but maps k.toNat first.toNat many.toNat w hb hm ha (by omega) (by omega)
  rwa [Int.toNat_of_nonneg hk.1, Int.toNat_of_nonneg h1.1, Int.toNat_of_nonneg h1.2.1] at this
def leastF_c1 (first : Int) (l : List Int) (k1 : Nat) : Int → Bool := fun v1_1 => decide ((k1 : Int) < (l.length : Int))
def leastF_b1 (first : Int) (l : List Int) (k1 : Nat) : Int → Bd Int Int := fun v1_1 => .go (mn v1_1 (l.getD k1 0))
def leastF (first : Int) (l : List Int) : Int :=
  (match loopR (leastF_c1 first l) (leastF_b1 first l) l.length 0 first with | .brk u1_0 => u1_0 | .ret r => r)
theorem leastF_calls (g0 : Value) (first : Int) (l : List Int) (w : World) (r0 : Reads w g0 1 l encI 0)  : Calls Tryd.prog 77 #[iv first, g0] w fun e w' => e = .returned (iv (leastF first l)) ∧ Below w.heap.size w w' := by
  refine calls_of_WP (cx := cx0 w (vn [g0]) 1) (n := vn [g0]) (vs := [.s (.int .i64 first), .s (.ref 0)]) (hp := [(0, .sl .ro 3 1 l encI 0)]) (nx := 1) tt_ok Tryd.func77 rfl rfl rfl (by kernel_rfl) (HSat_args (vn_one (by simp [r0.one])) (Nat.le_refl _) ⟨⟨⟨fun _ => rfl, by decide, r0⟩, (Nat.le_of_ble_eq_true rfl)⟩, trivial⟩) (vsOk (by kernel_rfl)) ?_
  have hl0 := Reads.len r0
  refine WP_seq (WP_region (WPO_all tt_ok (by kernel_rfl) ?_))
  refine WP_seq (WP_seq (WP_region (WPO_all tt_ok (by kernel_rfl) ?_)))
  refine WP_loopA (ρ := Int) (leastF_c1 first l) (leastF_b1 first l) l.length first (fun k : Nat => (k : Int)) (fun (ci : Int) (zz : Int) => ⟨18, [(9, [], .s (.int .i64 ci)), (8, [], .s (.int .i64 (l.length : Int))), (7, [], .s (.ref 0)), (0, [], .s (.int .i64 zz))], [(0, .sl .ro 3 1 l encI 0)], 1, []⟩) (fun zz : Int => ⟨18, [(0, [], .s (.int .i64 zz))], [(0, .sl .ro 3 1 l encI 0)], 1, []⟩) (fun k zz => True) trivial ⟨0, rfl, Le_sel (ts := [9, 8, 7, 0]) (ids := [0]) (nx := 1) (by kernel_rfl)⟩ ?_ ?_
  · intro k1 v1_1 hn1 hp1 hi1 Q1 hq1 ho1
    refine WP_seq (WP_region (WPO_all tt_ok (by kernel_rfl) ?_))
    refine WP_seq (WP_cond (decide ((k1 : Int) < (l.length : Int))) (by kernel_rfl) (fun hc1 => ?_) (fun hc1 => ?_))
    rotate_left
    · refine WP_exit ?_
      show Q1 (.exit 0) _
      exact LA_exit hq1 v1_1 (loopR_end hi1 hc1) ⟨k1, hn1, hp1⟩ (Le_sel (ts := [0]) (ids := [0]) (nx := 1) (by kernel_rfl))
    have hc1' := of_decide_eq_true hc1
    have hk1 : k1 < l.length := by omega
    refine WP_skip ?_
    refine WP_seq (WP_block ?_)
    refine WP_seq (WP_region (IX tt_ok (k1 : Int) l.length [] (by kernel_rfl) (fun hG => ⟨by omega, by omega⟩) ?_))
    refine WPO_all tt_ok (by kernel_rfl) ?_
    refine WP_region (WPO_all tt_ok (by kernel_rfl) ?_)
    refine WP_region (WPO_all tt_ok (by kernel_rfl) ?_)
    show Q1 .normal _
    exact LA_go hq1 (ci := IntKind.i64.wrap ((k1 : Int) + 1)) (mn v1_1 (l.getD k1 0)) hk1 (by show _ = ((k1 + 1 : Nat) : Int); rw [wrapI (by omega) (by omega)]; omega) (loopR_go hi1 hk1 hc1 (rfl)) trivial (Le_sel (ts := [9, 8, 7, 0]) (ids := [0]) (nx := 1) (by kernel_rfl))
  intro u1_0 hR1 hP1 s' hl
  refine WP_le hl ?_
  clear hl s'
  refine WP_seq (WP_region (WPO_all tt_ok (by kernel_rfl) ?_))
  refine WP_ret ?_
  exact ⟨.s (.int .i64 u1_0), by kernel_rfl, fun nV w' h => ⟨by rw [show leastF first l = u1_0 from by unfold leastF; simp only [hR1, cond_true, cond_false]]; rfl, h.bel⟩⟩
def clearF_c1 (b : Book) (but : List Int) (begin : Int) (k1 : Nat) : Int → Bool := fun v1_1 => decide ((k1 : Int) < (b.ships.length : Int))
def clearF_b1 (b : Book) (but : List Int) (begin : Int) (k1 : Nat) : Int → Bd Int Int := fun v1_1 => .go (leastF v1_1 ([IntKind.i64.wrap (2 - (near02 b but (k1 : Int).toNat begin.toNat (b.cr + b.sl).toNat))]))
def clearF (b : Book) (but : List Int) (begin : Int) : Int :=
  (match loopR (clearF_c1 b but begin) (clearF_b1 b but begin) b.ships.length 0 2 with | .brk u1_0 => u1_0 | .ret r => r)
theorem clearF_calls (sv gv cv : Value) (b : Book) (but : List Int) (maps : List Nat) (begin : Int) (w : World) (hb : BookAt w sv gv b) (hm : CanAt w cv b but maps) (ha : AsksAt w) (hv : Valid b) (hb1 : 0 ≤ begin ∧ begin ≤ 60) : Calls Tryd.prog 79 #[bookV2 sv gv cv b, iv begin] w fun e w' => e = .returned (iv (clearF b but begin)) ∧ Below w.heap.size w w' := by
  refine calls_of_WP (cx := cx0 w (vn [sv, gv, cv]) 3) (n := vn [sv, gv, cv]) (vs := [.g (bookC b), .s (.int .i64 begin)]) (hp := hpB b ++ [(2, .sl .ro 100 1 maps encM 0), (3, pfK b but maps), (4, .pf AsksAt (· = 0))]) (nx := 5) tt_ok Tryd.func79 rfl rfl rfl (by kernel_rfl) (HSat_bookK hb hm ha) (vsOk (by kernel_rfl)) ?_
  have hbs := hv.nships
  have hbc := hv.cr
  have hbl := hv.sl
  refine WP_seq (WP_region (WPO_all tt_ok (by kernel_rfl) ?_))
  refine WP_seq (WP_region (WPO_all tt_ok (by kernel_rfl) ?_))
  refine WP_seq (WP_seq (WP_region (WPO_all tt_ok (by kernel_rfl) ?_)))
  refine WP_loopA (ρ := Int) (clearF_c1 b but begin) (clearF_b1 b but begin) b.ships.length 2 (fun k : Nat => (k : Int)) (fun (ci : Int) (zz : Int) => ⟨26, [(11, [], .s (.int .i64 ci)), (10, [], .s (.int .i64 (b.ships.length : Int))), (5, [], .s (.int .i64 zz)), (2, [], .s (.p 5 0)), (1, [], .s (.int .i64 begin))], [(5, .box 94 [.ref 0, .int .i64 b.hear.lo, .int .i64 b.hear.hi, .int .i64 b.br, .int .i64 b.cr, .int .i64 b.sl, .ref 1, .ref 2]), (0, .sl .ro 65 5 b.ships encShip zShip), (1, .sl .ro 70 4 b.sights encSight zSight), (2, .sl .ro 100 1 maps encM 0), (3, pfK b but maps), (4, .pf AsksAt (· = 0))], 6, []⟩) (fun zz : Int => ⟨26, [(5, [], .s (.int .i64 zz))], [(5, .box 94 [.ref 0, .int .i64 b.hear.lo, .int .i64 b.hear.hi, .int .i64 b.br, .int .i64 b.cr, .int .i64 b.sl, .ref 1, .ref 2]), (0, .sl .ro 65 5 b.ships encShip zShip), (1, .sl .ro 70 4 b.sights encSight zSight), (2, .sl .ro 100 1 maps encM 0), (3, pfK b but maps), (4, .pf AsksAt (· = 0))], 6, []⟩) (fun k zz => True) trivial ⟨0, rfl, Le_sel (ts := [11, 10, 5, 2, 1]) (ids := [5, 0, 1, 2, 3, 4]) (nx := 6) (by kernel_rfl)⟩ ?_ ?_
  · intro k1 v1_1 hn1 hp1 hi1 Q1 hq1 ho1
    refine WP_seq (WP_region (WPO_all tt_ok (by kernel_rfl) ?_))
    refine WP_seq (WP_cond (decide ((k1 : Int) < (b.ships.length : Int))) (by kernel_rfl) (fun hc1 => ?_) (fun hc1 => ?_))
    rotate_left
    · refine WP_exit ?_
      show Q1 (.exit 0) _
      exact LA_exit hq1 v1_1 (loopR_end hi1 hc1) ⟨k1, hn1, hp1⟩ (Le_sel (ts := [5]) (ids := [5, 0, 1, 2, 3, 4]) (nx := 6) (by kernel_rfl))
    have hc1' := of_decide_eq_true hc1
    have hk1 : k1 < b.ships.length := by omega
    refine WP_skip ?_
    refine WP_seq (WP_block ?_)
    refine WP_seq (WP_region (WPO_all tt_ok (by kernel_rfl) ?_))
    refine WP_drawH [] (by kernel_rfl) (by kernel_rfl) ?_
    refine H_run tt_ok [0, 1, 2, 3, 4] (f' := 6) (by kernel_rfl) (by kernel_rfl) (by kernel_rfl) ?_
    refine H_step 5 (by kernel_rfl) (by kernel_rfl) (fun hfz cx' hx1 hx2 => ?_)
    refine CALL 80 [.g [.ref 0, .int .i64 b.hear.lo, .int .i64 b.hear.hi, .int .i64 b.br, .int .i64 b.cr, .int .i64 b.sl, .ref 1, .ref 2], .s (.int .i64 begin)] (.g [.int .i64 begin, .int .i64 (b.cr + b.sl)]) [] (by kernel_rfl) (goes_of (by kernel_rfl)) (by kernel_rfl) (by kernel_rfl) (fun _ nV w h => taut_calls (nV 0) (nV 1) (nV 2) b but maps begin w ⟨h.reads (id := 0) (kd := .ro) (e := 65) (by kernel_rfl), h.reads (id := 1) (kd := .ro) (e := 70) (by kernel_rfl)⟩ (HSat_toK 2 3 .ro h (by kernel_rfl) (by kernel_rfl)) hv) ?_
    refine WPO_end (by kernel_rfl) ⟨rfl, (hfz.fnds [5, 0, 1, 2, 3, 4] (by kernel_rfl) ⟨by kernel_rfl, by kernel_rfl, by kernel_rfl, by kernel_rfl, by kernel_rfl, by kernel_rfl, trivial⟩ (by kernel_rfl)), ?_⟩
    refine H_step 6 (by kernel_rfl) (by kernel_rfl) (fun hfz cx' hx1 hx2 => ?_)
    refine CALL 86 [.g [.ref 0, .int .i64 b.hear.lo, .int .i64 b.hear.hi, .int .i64 b.br, .int .i64 b.cr, .int .i64 b.sl, .ref 1, .ref 2], .s (.int .i64 (k1 : Int)), .g [.int .i64 begin, .int .i64 (b.cr + b.sl)]] (.s (.int .i64 (near02 b but (k1 : Int).toNat begin.toNat (b.cr + b.sl).toNat))) [] (by kernel_rfl) (goes_of (by kernel_rfl)) (by kernel_rfl) (by kernel_rfl) (fun _ nV w h => near_callsI (nV 0) (nV 1) (nV 2) b but maps (k1 : Int) begin (b.cr + b.sl) w ⟨h.reads (id := 0) (kd := .ro) (e := 65) (by kernel_rfl), h.reads (id := 1) (kd := .ro) (e := 70) (by kernel_rfl)⟩ (HSat_toK 2 3 .ro h (by kernel_rfl) (by kernel_rfl)) (h.ents (4, .pf AsksAt (· = 0)) (fnd_mem (by kernel_rfl))).1 (by first | assumption | omega | (constructor <;> omega) | (refine ⟨?_, ?_, ?_⟩ <;> omega)) (by first | assumption | omega | (constructor <;> omega) | (refine ⟨?_, ?_, ?_⟩ <;> omega))) ?_
    refine WPO_end (by kernel_rfl) ⟨rfl, (hfz.fnds [5, 0, 1, 2, 3, 4] (by kernel_rfl) ⟨by kernel_rfl, by kernel_rfl, by kernel_rfl, by kernel_rfl, by kernel_rfl, by kernel_rfl, trivial⟩ (by kernel_rfl)), ?_⟩
    refine H_run tt_ok [7] (f' := 3) (by kernel_rfl) (by kernel_rfl) (by kernel_rfl) ?_
    refine H_step 8 (by kernel_rfl) (by kernel_rfl) (fun hfz cx' hx1 hx2 => ?_)
    refine LIT tt_ok (by kernel_rfl) ?_
    refine LITSL 6 3 1 1 [.int .i64 (IntKind.i64.wrap (2 - (near02 b but (k1 : Int).toNat begin.toNat (b.cr + b.sl).toNat)))] [IntKind.i64.wrap (2 - (near02 b but (k1 : Int).toNat begin.toNat (b.cr + b.sl).toNat))] encI 0 (by kernel_rfl) rfl (fun _ => rfl) (fun n => rfl) ?_
    refine WPO_end (by kernel_rfl) ⟨rfl, (hfz.fnds [5, 0, 1, 2, 3, 4] (by kernel_rfl) ⟨by kernel_rfl, by kernel_rfl, by kernel_rfl, by kernel_rfl, by kernel_rfl, by kernel_rfl, trivial⟩ (by kernel_rfl)), ?_⟩
    refine H_step 9 (by kernel_rfl) (by kernel_rfl) (fun hfz cx' hx1 hx2 => ?_)
    refine CALL 77 [.s (.int .i64 v1_1), .s (.ref 6)] (.s (.int .i64 (leastF v1_1 ([IntKind.i64.wrap (2 - (near02 b but (k1 : Int).toNat begin.toNat (b.cr + b.sl).toNat))])))) [] (by kernel_rfl) (goes_of (by kernel_rfl)) (by kernel_rfl) (by kernel_rfl) (fun _ nV w h => leastF_calls (nV 6) v1_1 ([IntKind.i64.wrap (2 - (near02 b but (k1 : Int).toNat begin.toNat (b.cr + b.sl).toNat))]) w (h.reads (id := 6) (kd := .own) (e := 3) (by kernel_rfl)) ) ?_
    refine WPO_end (by kernel_rfl) ⟨rfl, (hfz.fnds [5, 0, 1, 2, 3, 4] (by kernel_rfl) ⟨by kernel_rfl, by kernel_rfl, by kernel_rfl, by kernel_rfl, by kernel_rfl, by kernel_rfl, trivial⟩ (by kernel_rfl)), ?_⟩
    refine H_run tt_ok [10] (f' := 0) (by kernel_rfl) (by kernel_rfl) (by kernel_rfl) ?_
    refine H_done (by kernel_rfl) ?_
    refine WP_region (WPO_all tt_ok (by kernel_rfl) ?_)
    show Q1 .normal _
    exact LA_go hq1 (ci := IntKind.i64.wrap ((k1 : Int) + 1)) (leastF v1_1 ([IntKind.i64.wrap (2 - (near02 b but (k1 : Int).toNat begin.toNat (b.cr + b.sl).toNat))])) hk1 (by show _ = ((k1 + 1 : Nat) : Int); rw [wrapI (by omega) (by omega)]; omega) (loopR_go hi1 hk1 hc1 (rfl)) trivial (Le_sel (ts := [11, 10, 5, 2, 1]) (ids := [5, 0, 1, 2, 3, 4]) (nx := 6) (by kernel_rfl))
  intro u1_0 hR1 hP1 s' hl
  refine WP_le hl ?_
  clear hl s'
  refine WP_seq (WP_region (WPO_all tt_ok (by kernel_rfl) ?_))
  refine WP_ret ?_
  exact ⟨.s (.int .i64 u1_0), by kernel_rfl, fun nV w' h => ⟨by rw [show clearF b but begin = u1_0 from by unfold clearF; simp only [hR1, cond_true, cond_false]]; rfl, h.bel⟩⟩
end Go.Proofs.YtamimgmoomcipaaDoor.Fw
namespace Go.Proofs.YtamimgmoomcipaaDoor.Fw
open Go Go.RowKit Go.Proofs.YtamimgmoomcipaaDoor.Eng 
set_option linter.unusedVariables false
set_option linter.unusedSimpArgs false
def zeroBookV : Value := .agg #[.slice none 0 0, iv 0, iv 0, iv 0, iv 0, iv 0, .slice none 0 0, .slice none 0 0]
def askT (b : Book) : Int := if isTrueF b [] then 0 else 42
def askN (b : Book) : Int := if checkW b = 0 then 41 else checkW b
theorem asked_calls (sv gv : Value) (b : Book) (is : Bool) (w : World) (hb : BookAt w sv gv b) : Calls Tryd.prog 76 #[bookV sv gv b, .bool is] w fun e w' => Below w.heap.size w w' ∧ ((¬ (checkW b = 0 ∧ is = true) ∧ e = .returned (.tuple #[zeroBookV, iv (askN b)])) ∨ ((checkW b = 0 ∧ is = true) ∧ ∃ cv maps, e = .returned (.tuple #[bookV2 sv gv cv b, iv (askT b)]) ∧ CanAt w' cv b [] maps ∧ w'.ownsRow w.heap.size 100 1 cv maps.length (flat maps encM))) := by
  refine calls_of_WP (cx := cx0 w (vn [sv, gv]) 2) (n := vn [sv, gv]) (vs := [.g (bookA b), .s (.bool is)]) (hp := hpB b) (nx := 2) tt_ok Tryd.func76 rfl rfl rfl (by kernel_rfl) (HSat_book hb) (vsOk (by kernel_rfl)) ?_
  refine WP_seq (WP_region (WPO_all tt_ok (by kernel_rfl) ?_))
  refine WP_seq (WP_seq (WP_region (WPO_run tt_ok 1 (by kernel_rfl) ?_)))
  refine CALL 45 [.g [.ref 0, .int .i64 b.hear.lo, .int .i64 b.hear.hi, .int .i64 b.br, .int .i64 b.cr, .int .i64 b.sl, .ref 1]] (.s (.int .i64 (checkW b))) [] (by kernel_rfl) (goes_of (by kernel_rfl)) (by kernel_rfl) (by kernel_rfl) (fun _ nV w h => Check_calls (nV 0) (nV 1) b w ⟨h.reads (id := 0) (kd := .ro) (e := 65) (by kernel_rfl), h.reads (id := 1) (kd := .ro) (e := 70) (by kernel_rfl)⟩) ?_
  refine WPO_all tt_ok (by kernel_rfl) ?_
  refine WP_seq (WP_region (WPO_all tt_ok (by kernel_rfl) ?_))
  refine WP_cond ((checkW b) != 0) (by kernel_rfl) (fun hc1 => ?_) (fun hc1 => ?_)
  · refine WP_seq (WP_region (WPO_all tt_ok (by kernel_rfl) ?_))
    refine WP_ret ?_
    exact ⟨.t [(true, [.v (.slice none 0 0), .int .i64 0, .int .i64 0, .int .i64 0, .int .i64 0, .int .i64 0, .v (.slice none 0 0), .v (.slice none 0 0)]), (false, [.int .i64 (checkW b)])], by kernel_rfl, fun nV w' h => ⟨h.bel, .inl ⟨fun hx => bne_iff_ne.1 hc1 hx.1, by unfold askN; rw [if_neg (bne_iff_ne.1 hc1)]; rfl⟩⟩⟩
  refine WP_skip ?_
  refine WP_seq (WP_seq (WP_region (WPO_all tt_ok (by kernel_rfl) ?_)))
  refine WP_cond (!is) (by kernel_rfl) (fun hc2 => ?_) (fun hc2 => ?_)
  · refine WP_seq (WP_region (WPO_all tt_ok (by kernel_rfl) ?_))
    refine WP_ret ?_
    exact ⟨.t [(true, [.v (.slice none 0 0), .int .i64 0, .int .i64 0, .int .i64 0, .int .i64 0, .int .i64 0, .v (.slice none 0 0), .v (.slice none 0 0)]), (false, [.int .i64 41])], by kernel_rfl, fun nV w' h => ⟨h.bel, .inl ⟨fun hx => (by rw [hx.2] at hc2; cases hc2), by unfold askN; rw [if_pos (bne_eq_false_iff_eq.1 hc1)]; rfl⟩⟩⟩
  refine WP_skip ?_
  refine WP_seq (WP_region (WPO_run tt_ok 1 (by kernel_rfl) ?_))
  refine CALLMAPS 73 [.g [.ref 0, .int .i64 b.hear.lo, .int .i64 b.hear.hi, .int .i64 b.br, .int .i64 b.cr, .int .i64 b.sl, .ref 1], .s (.v (.slice none 0 0))] (.g [.ref 0, .int .i64 b.hear.lo, .int .i64 b.hear.hi, .int .i64 b.br, .int .i64 b.cr, .int .i64 b.sl, .ref 1, .ref 4]) 100 encM (CanF b ([])) 4 (by kernel_rfl) (by kernel_rfl) (by kernel_rfl) (goes_of (by kernel_rfl)) (fun _ => (by kernel_rfl)) (fun _ => (by kernel_rfl)) (fun _ => rfl) (fun m w1 w2 h1 h2 => CanF.stab m w1 w2 h1 h2) (fun m w h1 => CanF.maps m w h1) (fun nV w h => (opened_calls (nV 0) (nV 1) (.slice none 0 0) b ([]) w ⟨h.reads (id := 0) (kd := .ro) (e := 65) (by kernel_rfl), h.reads (id := 1) (kd := .ro) (e := 70) (by kernel_rfl)⟩ ⟨none, 0, rfl, Nat.le_refl _, Nat.zero_le _, fun h => absurd h (by simp)⟩ (check_valid.1 (bne_eq_false_iff_eq.1 hc1))).mono fun e w' ⟨cv, m, h1, h2, h3, h4⟩ => ⟨cv, m, h1, h2, h4, h3.len, h3.at'⟩) (fun mp1 => ?_)
  refine WPO_all tt_ok (by kernel_rfl) ?_
  refine WP_seq (WP_seq (WP_region (WPO_run tt_ok 1 (by kernel_rfl) ?_)))
  refine CALL 74 [.g [.ref 0, .int .i64 b.hear.lo, .int .i64 b.hear.hi, .int .i64 b.br, .int .i64 b.cr, .int .i64 b.sl, .ref 1, .ref 4]] (.s (.bool (isTrueF b ([])))) [] (by kernel_rfl) (goes_of (by kernel_rfl)) (by kernel_rfl) (by kernel_rfl) (fun _ nV w h => isTrue_calls (nV 0) (nV 1) (nV 4) b ([]) mp1 w ⟨h.reads (id := 0) (kd := .ro) (e := 65) (by kernel_rfl), h.reads (id := 1) (kd := .ro) (e := 70) (by kernel_rfl)⟩ (HSat_toK 4 5 .own h (by kernel_rfl) (by kernel_rfl))) ?_
  refine WPO_all tt_ok (by kernel_rfl) ?_
  refine WP_cond (!(isTrueF b ([]))) (by kernel_rfl) (fun hc3 => ?_) (fun hc3 => ?_)
  · refine WP_seq (WP_region (WPO_all tt_ok (by kernel_rfl) ?_))
    refine WP_ret ?_
    exact ⟨.t [(true, [.ref 0, .int .i64 b.hear.lo, .int .i64 b.hear.hi, .int .i64 b.br, .int .i64 b.cr, .int .i64 b.sl, .ref 1, .ref 4]), (false, [.int .i64 42])], by kernel_rfl, fun nV w' h => ⟨h.bel, .inr ⟨⟨bne_eq_false_iff_eq.1 hc1, by simpa using hc2⟩, nV 4, mp1, by have e0 : nV 0 = sv := h.ini 0 (by show 0 < 2; decide); have e1 : nV 1 = gv := h.ini 1 (by show 1 < 2; decide); unfold askT; rw [if_neg (by simpa using hc3)]; rw [← e0, ← e1]; rfl, HSat_toK 4 5 .own h (by kernel_rfl) (by kernel_rfl), own_of (z := 0) (id := 4) h (by kernel_rfl)⟩⟩⟩
  refine WP_skip ?_
  refine WP_seq (WP_region (WPO_all tt_ok (by kernel_rfl) ?_))
  refine WP_ret ?_
  exact ⟨.t [(true, [.ref 0, .int .i64 b.hear.lo, .int .i64 b.hear.hi, .int .i64 b.br, .int .i64 b.cr, .int .i64 b.sl, .ref 1, .ref 4]), (false, [.int .i64 0])], by kernel_rfl, fun nV w' h => ⟨h.bel, .inr ⟨⟨bne_eq_false_iff_eq.1 hc1, by simpa using hc2⟩, nV 4, mp1, by have e0 : nV 0 = sv := h.ini 0 (by show 0 < 2; decide); have e1 : nV 1 = gv := h.ini 1 (by show 1 < 2; decide); unfold askT; rw [if_pos (by simpa using hc3)]; rw [← e0, ← e1]; rfl, HSat_toK 4 5 .own h (by kernel_rfl) (by kernel_rfl), own_of (z := 0) (id := 4) h (by kernel_rfl)⟩⟩⟩
theorem askN_ne (b : Book) : (askN b != 0) = true := by
  unfold askN
  split
  · rfl
  · rename_i h; exact bne_iff_ne.2 h
theorem ask_two {b : Book} {is : Bool} (h : ((checkW b == 0) && is) = true) : checkW b = 0 ∧ is = true := by
  rw [Bool.and_eq_true] at h
  exact ⟨eq_of_beq h.1, h.2⟩
theorem asked_no (sv gv : Value) (b : Book) (is : Bool) (w : World) (hb : BookAt w sv gv b) (hq : ((checkW b == 0) && is) = false) : Calls Tryd.prog 76 #[bookV sv gv b, .bool is] w fun e w' => e = .returned (.tuple #[zeroBookV, iv (askN b)]) ∧ Below w.heap.size w w' :=
  (asked_calls sv gv b is w hb).mono fun e w' ⟨h1, h2⟩ => by
    rcases h2 with ⟨_, h2⟩ | ⟨h2, _⟩
    · exact ⟨h2, h1⟩
    · rw [h2.1, h2.2] at hq; cases hq
theorem asked_yes (sv gv : Value) (b : Book) (is : Bool) (w : World) (hb : BookAt w sv gv b) (hq1 : checkW b = 0) (hq2 : is = true) : Calls Tryd.prog 76 #[bookV sv gv b, .bool is] w fun e w' => ∃ cv maps, e = .returned (.tuple #[bookV2 sv gv cv b, iv (askT b)]) ∧ Below w.heap.size w w' ∧ w'.ownsRow w.heap.size 100 1 cv maps.length (flat maps encM) ∧ CanF b [] maps w' :=
  (asked_calls sv gv b is w hb).mono fun e w' ⟨h1, h2⟩ => by
    rcases h2 with ⟨h2, _⟩ | ⟨_, cv, maps, h3, h4, h5⟩
    · exact absurd ⟨hq1, hq2⟩ h2
    · exact ⟨cv, maps, h3, h1, h5, h4.len, h4.at'⟩
theorem askT_ok {b : Book} (h : (askT b != 0) = false) : isTrueF b [] = true := by
  unfold askT at h
  split at h
  · assumption
  · cases h
end Go.Proofs.YtamimgmoomcipaaDoor.Fw
namespace Go.Proofs.YtamimgmoomcipaaDoor.Fw
open Go Go.RowKit Go.Proofs.YtamimgmoomcipaaDoor.Eng 
set_option linter.unusedVariables false
set_option linter.unusedSimpArgs false
theorem within_one {x l h : Int} (hq : withinF x l h = true) : l ≤ x ∧ x ≤ h := by
  unfold withinF at hq
  simpa only [Bool.and_eq_true, decide_eq_true_eq] using hq
theorem within_two {x l h x' l' h' : Int} (hq : (withinF x l h && withinF x' l' h') = true) : (l ≤ x ∧ x ≤ h) ∧ l' ≤ x' ∧ x' ≤ h' := by
  rw [Bool.and_eq_true] at hq
  exact ⟨within_one hq.1, within_one hq.2⟩
def nearA (b : Book) (ship : Int) (minute : Int) : Int × Int :=
  (bif (checkW b == 0) && ((withinF ship 0 (b.ships.length - 1)) && (withinF minute 0 200)) then (bif (askT b) != 0 then (0, askT b) else (near02 b ([]) ship.toNat minute.toNat (1 : Int).toNat, 0)) else (bif (askN b) != 0 then (0, askN b) else (0, askN b)))
theorem nearA_calls (g0 g1 : Value) (b : Book) (ship : Int) (minute : Int) (w : World) (r0 : Reads w g0 5 b.ships encShip zShip) (r1 : Reads w g1 4 b.sights encSight zSight) (ha : AsksAt w) : Calls Tryd.prog 35 #[.agg #[g0, iv b.hear.lo, iv b.hear.hi, iv b.br, iv b.cr, iv b.sl, g1], iv ship, iv minute] w fun e w' => e = .returned (.tuple #[iv (nearA b ship minute).1, iv (nearA b ship minute).2]) ∧ Below w.heap.size w w' := by
  cases hq : ((checkW b == 0) && ((withinF ship 0 (b.ships.length - 1)) && (withinF minute 0 200)))
  · refine calls_of_WP (cx := cx0 w (vn [g0, g1]) 2) (n := vn [g0, g1]) (vs := [.g [.ref 0, .int .i64 b.hear.lo, .int .i64 b.hear.hi, .int .i64 b.br, .int .i64 b.cr, .int .i64 b.sl, .ref 1], .s (.int .i64 ship), .s (.int .i64 minute)]) (hp := [(0, .sl .ro 65 5 b.ships encShip zShip), (1, .sl .ro 70 4 b.sights encSight zSight), (2, .pf AsksAt (· = 0))]) (nx := 3) tt_ok Tryd.func35 rfl rfl rfl (by kernel_rfl) (HSat_args (vn_one (by simp [r0.one, r1.one])) (by decide) ⟨⟨⟨fun _ => rfl, by decide, r0⟩, (Nat.le_of_ble_eq_true rfl)⟩, ⟨⟨fun _ => rfl, by decide, r1⟩, (Nat.le_of_ble_eq_true rfl)⟩, ⟨⟨ha, fun w1 w2 h1 hw => (hw 0 rfl).trans h1, fun g hg => by cases hg; exact (Array.getElem?_eq_some_iff.1 ha).1⟩, (Nat.le_of_ble_eq_true rfl)⟩, trivial⟩) (vsOk (by kernel_rfl)) ?_
    have hl0 := Reads.len r0
    have hl1 := Reads.len r1
    refine WP_seq (WP_region (WPO_all tt_ok (by kernel_rfl) ?_))
    refine WP_seq (WP_toX (σ := Unit) (fun _ => ⟨30, [(9, [], .s (.int .i64 (askN b))), (8, [], .s (.p 4 0)), (1, [], .s (.int .i64 ship)), (2, [], .s (.int .i64 minute))], [(4, .box 94 [.v (.slice none 0 0), .int .i64 0, .int .i64 0, .int .i64 0, .int .i64 0, .int .i64 0, .v (.slice none 0 0), .v (.slice none 0 0)]), (3, .box 27 [.ref 0, .int .i64 b.hear.lo, .int .i64 b.hear.hi, .int .i64 b.br, .int .i64 b.cr, .int .i64 b.sl, .ref 1]), (0, .sl .ro 65 5 b.ships encShip zShip), (1, .sl .ro 70 4 b.sights encSight zSight), (2, .pf AsksAt (· = 0))], 5, []⟩) ?_ ?_)
    · refine WP_drawH [] (by kernel_rfl) (by kernel_rfl) ?_
      refine H_run tt_ok [0, 1, 2] (f' := 12) (by kernel_rfl) (by kernel_rfl) (by kernel_rfl) ?_
      refine H_two 3 12 (by kernel_rfl) (by kernel_rfl) (by kernel_rfl) (fun hfz cx' hx1 hx2 => ?_) (fun hfz cx' hx1 hx2 => ?_)
      · refine CALL 84 [.g [.ref 0, .int .i64 b.hear.lo, .int .i64 b.hear.hi, .int .i64 b.br, .int .i64 b.cr, .int .i64 b.sl, .ref 1], .s (.int .i64 ship)] (.s (.bool (withinF ship 0 (b.ships.length - 1)))) [] (by kernel_rfl) (goes_of (by kernel_rfl)) (by kernel_rfl) (by kernel_rfl) (fun _ nV w h => isShip_calls (nV 0) (nV 1) b _ w ⟨h.reads (id := 0) (kd := .ro) (e := 65) (by kernel_rfl), h.reads (id := 1) (kd := .ro) (e := 70) (by kernel_rfl)⟩) ?_
        refine WPO_end (by kernel_rfl) ⟨rfl, (hfz.fnds [3, 0, 1, 2] (by kernel_rfl) ⟨by kernel_rfl, by kernel_rfl, by kernel_rfl, by kernel_rfl, trivial⟩ (by kernel_rfl)), ?_⟩
        refine H_run tt_ok [4, 5] (f' := 9) (by kernel_rfl) (by kernel_rfl) (by kernel_rfl) ?_
        refine H_two 6 12 (by kernel_rfl) (by kernel_rfl) (by kernel_rfl) (fun hfz cx' hx1 hx2 => ?_) (fun hfz cx' hx1 hx2 => ?_)
        · refine CALL 85 [.s (.int .i64 minute)] (.s (.bool (withinF minute 0 200))) [(withinF ship 0 (b.ships.length - 1), true)] (by kernel_rfl) (goes_of (by kernel_rfl)) (by kernel_rfl) (by kernel_rfl) (fun _ _ w _ => isMinute_calls _ w) ?_
          refine WPO_end (by kernel_rfl) ⟨rfl, (hfz.fnds [3, 0, 1, 2] (by kernel_rfl) ⟨by kernel_rfl, by kernel_rfl, by kernel_rfl, by kernel_rfl, trivial⟩ (by kernel_rfl)), ?_⟩
          refine H_run tt_ok [7] (f' := 7) (by kernel_rfl) (by kernel_rfl) (by kernel_rfl) ?_
          refine H_two 8 12 (by kernel_rfl) (by kernel_rfl) (by kernel_rfl) (fun hfz cx' hx1 hx2 => ?_) (fun hfz cx' hx1 hx2 => ?_)
          · refine CALL 76 [.g [.ref 0, .int .i64 b.hear.lo, .int .i64 b.hear.hi, .int .i64 b.br, .int .i64 b.cr, .int .i64 b.sl, .ref 1], .s (.bool ((withinF ship 0 (b.ships.length - 1)) && (withinF minute 0 200)))] (.t [(true, [.v (.slice none 0 0), .int .i64 0, .int .i64 0, .int .i64 0, .int .i64 0, .int .i64 0, .v (.slice none 0 0), .v (.slice none 0 0)]), (false, [.int .i64 (askN b)])]) [] (by kernel_rfl) (goes_of (by kernel_rfl)) (by kernel_rfl) (by kernel_rfl) (fun _ nV w h => asked_no (nV 0) (nV 1) b _ w ⟨h.reads (id := 0) (kd := .ro) (e := 65) (by kernel_rfl), h.reads (id := 1) (kd := .ro) (e := 70) (by kernel_rfl)⟩ hq) ?_
            refine WPO_end (by kernel_rfl) ⟨rfl, (hfz.fnds [3, 0, 1, 2] (by kernel_rfl) ⟨by kernel_rfl, by kernel_rfl, by kernel_rfl, by kernel_rfl, trivial⟩ (by kernel_rfl)), ?_⟩
            refine H_run tt_ok [9, 10, 11] (f' := 3) (by kernel_rfl) (by kernel_rfl) (by kernel_rfl) ?_
            refine H_step 12 (by kernel_rfl) (by kernel_rfl) (fun hfz cx' hx1 hx2 => ?_)
            refine WPO_all tt_ok (by kernel_rfl) ?_
            refine ⟨rfl, (hfz.fnds [3, 0, 1, 2] (by kernel_rfl) ⟨by kernel_rfl, by kernel_rfl, by kernel_rfl, by kernel_rfl, trivial⟩ (by kernel_rfl)), ?_⟩
            refine H_step 13 (by kernel_rfl) (by kernel_rfl) (fun hfz cx' hx1 hx2 => ?_)
            refine WPO_all tt_ok (by kernel_rfl) ?_
            refine ⟨rfl, (hfz.fnds [3, 0, 1, 2] (by kernel_rfl) ⟨by kernel_rfl, by kernel_rfl, by kernel_rfl, by kernel_rfl, trivial⟩ (by kernel_rfl)), ?_⟩
            refine H_run tt_ok [14] (f' := 0) (by kernel_rfl) (by kernel_rfl) (by kernel_rfl) ?_
            refine H_done (by kernel_rfl) ?_
            exact ⟨(), Le_sel (ts := [9, 8, 1, 2]) (ids := [4, 3, 0, 1, 2]) (nx := 5) (by kernel_rfl)⟩
          · refine WPO_all tt_ok (by kernel_rfl) ?_
            refine ⟨rfl, (hfz.fnds [3, 0, 1, 2] (by kernel_rfl) ⟨by kernel_rfl, by kernel_rfl, by kernel_rfl, by kernel_rfl, trivial⟩ (by kernel_rfl)), ?_⟩
            refine H_step 8 (by kernel_rfl) (by kernel_rfl) (fun hfz cx' hx1 hx2 => ?_)
            refine CALL 76 [.g [.ref 0, .int .i64 b.hear.lo, .int .i64 b.hear.hi, .int .i64 b.br, .int .i64 b.cr, .int .i64 b.sl, .ref 1], .s (.bool ((withinF ship 0 (b.ships.length - 1)) && (withinF minute 0 200)))] (.t [(true, [.v (.slice none 0 0), .int .i64 0, .int .i64 0, .int .i64 0, .int .i64 0, .int .i64 0, .v (.slice none 0 0), .v (.slice none 0 0)]), (false, [.int .i64 (askN b)])]) [] (by kernel_rfl) (goes_of (by kernel_rfl)) (by kernel_rfl) (by kernel_rfl) (fun _ nV w h => asked_no (nV 0) (nV 1) b _ w ⟨h.reads (id := 0) (kd := .ro) (e := 65) (by kernel_rfl), h.reads (id := 1) (kd := .ro) (e := 70) (by kernel_rfl)⟩ hq) ?_
            refine WPO_end (by kernel_rfl) ⟨rfl, (hfz.fnds [3, 0, 1, 2] (by kernel_rfl) ⟨by kernel_rfl, by kernel_rfl, by kernel_rfl, by kernel_rfl, trivial⟩ (by kernel_rfl)), ?_⟩
            refine H_run tt_ok [9, 10, 11] (f' := 2) (by kernel_rfl) (by kernel_rfl) (by kernel_rfl) ?_
            refine H_step 13 (by kernel_rfl) (by kernel_rfl) (fun hfz cx' hx1 hx2 => ?_)
            refine WPO_all tt_ok (by kernel_rfl) ?_
            refine ⟨rfl, (hfz.fnds [3, 0, 1, 2] (by kernel_rfl) ⟨by kernel_rfl, by kernel_rfl, by kernel_rfl, by kernel_rfl, trivial⟩ (by kernel_rfl)), ?_⟩
            refine H_run tt_ok [14] (f' := 0) (by kernel_rfl) (by kernel_rfl) (by kernel_rfl) ?_
            refine H_done (by kernel_rfl) ?_
            exact ⟨(), Le_sel (ts := [9, 8, 1, 2]) (ids := [4, 3, 0, 1, 2]) (nx := 5) (by kernel_rfl)⟩
        · refine WPO_all tt_ok (by kernel_rfl) ?_
          refine ⟨rfl, (hfz.fnds [3, 0, 1, 2] (by kernel_rfl) ⟨by kernel_rfl, by kernel_rfl, by kernel_rfl, by kernel_rfl, trivial⟩ (by kernel_rfl)), ?_⟩
          refine H_step 6 (by kernel_rfl) (by kernel_rfl) (fun hfz cx' hx1 hx2 => ?_)
          refine CALL 85 [.s (.int .i64 minute)] (.s (.bool (withinF minute 0 200))) [(withinF ship 0 (b.ships.length - 1), true)] (by kernel_rfl) (goes_of (by kernel_rfl)) (by kernel_rfl) (by kernel_rfl) (fun _ _ w _ => isMinute_calls _ w) ?_
          refine WPO_end (by kernel_rfl) ⟨rfl, (hfz.fnds [3, 0, 1, 2] (by kernel_rfl) ⟨by kernel_rfl, by kernel_rfl, by kernel_rfl, by kernel_rfl, trivial⟩ (by kernel_rfl)), ?_⟩
          refine H_run tt_ok [7] (f' := 6) (by kernel_rfl) (by kernel_rfl) (by kernel_rfl) ?_
          refine H_step 8 (by kernel_rfl) (by kernel_rfl) (fun hfz cx' hx1 hx2 => ?_)
          refine CALL 76 [.g [.ref 0, .int .i64 b.hear.lo, .int .i64 b.hear.hi, .int .i64 b.br, .int .i64 b.cr, .int .i64 b.sl, .ref 1], .s (.bool ((withinF ship 0 (b.ships.length - 1)) && (withinF minute 0 200)))] (.t [(true, [.v (.slice none 0 0), .int .i64 0, .int .i64 0, .int .i64 0, .int .i64 0, .int .i64 0, .v (.slice none 0 0), .v (.slice none 0 0)]), (false, [.int .i64 (askN b)])]) [] (by kernel_rfl) (goes_of (by kernel_rfl)) (by kernel_rfl) (by kernel_rfl) (fun _ nV w h => asked_no (nV 0) (nV 1) b _ w ⟨h.reads (id := 0) (kd := .ro) (e := 65) (by kernel_rfl), h.reads (id := 1) (kd := .ro) (e := 70) (by kernel_rfl)⟩ hq) ?_
          refine WPO_end (by kernel_rfl) ⟨rfl, (hfz.fnds [3, 0, 1, 2] (by kernel_rfl) ⟨by kernel_rfl, by kernel_rfl, by kernel_rfl, by kernel_rfl, trivial⟩ (by kernel_rfl)), ?_⟩
          refine H_run tt_ok [9, 10, 11] (f' := 2) (by kernel_rfl) (by kernel_rfl) (by kernel_rfl) ?_
          refine H_step 13 (by kernel_rfl) (by kernel_rfl) (fun hfz cx' hx1 hx2 => ?_)
          refine WPO_all tt_ok (by kernel_rfl) ?_
          refine ⟨rfl, (hfz.fnds [3, 0, 1, 2] (by kernel_rfl) ⟨by kernel_rfl, by kernel_rfl, by kernel_rfl, by kernel_rfl, trivial⟩ (by kernel_rfl)), ?_⟩
          refine H_run tt_ok [14] (f' := 0) (by kernel_rfl) (by kernel_rfl) (by kernel_rfl) ?_
          refine H_done (by kernel_rfl) ?_
          exact ⟨(), Le_sel (ts := [9, 8, 1, 2]) (ids := [4, 3, 0, 1, 2]) (nx := 5) (by kernel_rfl)⟩
      · refine WPO_all tt_ok (by kernel_rfl) ?_
        refine ⟨rfl, (hfz.fnds [3, 0, 1, 2] (by kernel_rfl) ⟨by kernel_rfl, by kernel_rfl, by kernel_rfl, by kernel_rfl, trivial⟩ (by kernel_rfl)), ?_⟩
        refine H_step 3 (by kernel_rfl) (by kernel_rfl) (fun hfz cx' hx1 hx2 => ?_)
        refine CALL 84 [.g [.ref 0, .int .i64 b.hear.lo, .int .i64 b.hear.hi, .int .i64 b.br, .int .i64 b.cr, .int .i64 b.sl, .ref 1], .s (.int .i64 ship)] (.s (.bool (withinF ship 0 (b.ships.length - 1)))) [] (by kernel_rfl) (goes_of (by kernel_rfl)) (by kernel_rfl) (by kernel_rfl) (fun _ nV w h => isShip_calls (nV 0) (nV 1) b _ w ⟨h.reads (id := 0) (kd := .ro) (e := 65) (by kernel_rfl), h.reads (id := 1) (kd := .ro) (e := 70) (by kernel_rfl)⟩) ?_
        refine WPO_end (by kernel_rfl) ⟨rfl, (hfz.fnds [3, 0, 1, 2] (by kernel_rfl) ⟨by kernel_rfl, by kernel_rfl, by kernel_rfl, by kernel_rfl, trivial⟩ (by kernel_rfl)), ?_⟩
        refine H_run tt_ok [4, 5] (f' := 8) (by kernel_rfl) (by kernel_rfl) (by kernel_rfl) ?_
        refine H_step 6 (by kernel_rfl) (by kernel_rfl) (fun hfz cx' hx1 hx2 => ?_)
        refine CALL 85 [.s (.int .i64 minute)] (.s (.bool (withinF minute 0 200))) [(withinF ship 0 (b.ships.length - 1), true)] (by kernel_rfl) (goes_of (by kernel_rfl)) (by kernel_rfl) (by kernel_rfl) (fun _ _ w _ => isMinute_calls _ w) ?_
        refine WPO_end (by kernel_rfl) ⟨rfl, (hfz.fnds [3, 0, 1, 2] (by kernel_rfl) ⟨by kernel_rfl, by kernel_rfl, by kernel_rfl, by kernel_rfl, trivial⟩ (by kernel_rfl)), ?_⟩
        refine H_run tt_ok [7] (f' := 6) (by kernel_rfl) (by kernel_rfl) (by kernel_rfl) ?_
        refine H_step 8 (by kernel_rfl) (by kernel_rfl) (fun hfz cx' hx1 hx2 => ?_)
        refine CALL 76 [.g [.ref 0, .int .i64 b.hear.lo, .int .i64 b.hear.hi, .int .i64 b.br, .int .i64 b.cr, .int .i64 b.sl, .ref 1], .s (.bool ((withinF ship 0 (b.ships.length - 1)) && (withinF minute 0 200)))] (.t [(true, [.v (.slice none 0 0), .int .i64 0, .int .i64 0, .int .i64 0, .int .i64 0, .int .i64 0, .v (.slice none 0 0), .v (.slice none 0 0)]), (false, [.int .i64 (askN b)])]) [] (by kernel_rfl) (goes_of (by kernel_rfl)) (by kernel_rfl) (by kernel_rfl) (fun _ nV w h => asked_no (nV 0) (nV 1) b _ w ⟨h.reads (id := 0) (kd := .ro) (e := 65) (by kernel_rfl), h.reads (id := 1) (kd := .ro) (e := 70) (by kernel_rfl)⟩ hq) ?_
        refine WPO_end (by kernel_rfl) ⟨rfl, (hfz.fnds [3, 0, 1, 2] (by kernel_rfl) ⟨by kernel_rfl, by kernel_rfl, by kernel_rfl, by kernel_rfl, trivial⟩ (by kernel_rfl)), ?_⟩
        refine H_run tt_ok [9, 10, 11] (f' := 2) (by kernel_rfl) (by kernel_rfl) (by kernel_rfl) ?_
        refine H_step 13 (by kernel_rfl) (by kernel_rfl) (fun hfz cx' hx1 hx2 => ?_)
        refine WPO_all tt_ok (by kernel_rfl) ?_
        refine ⟨rfl, (hfz.fnds [3, 0, 1, 2] (by kernel_rfl) ⟨by kernel_rfl, by kernel_rfl, by kernel_rfl, by kernel_rfl, trivial⟩ (by kernel_rfl)), ?_⟩
        refine H_run tt_ok [14] (f' := 0) (by kernel_rfl) (by kernel_rfl) (by kernel_rfl) ?_
        refine H_done (by kernel_rfl) ?_
        exact ⟨(), Le_sel (ts := [9, 8, 1, 2]) (ids := [4, 3, 0, 1, 2]) (nx := 5) (by kernel_rfl)⟩
    intro _
    refine WP_seq (WP_seq (WP_region (WPO_all tt_ok (by kernel_rfl) ?_)))
    refine WP_cond ((askN b) != 0) (by kernel_rfl) (fun hc1 => ?_) (fun h => by rw [askN_ne b] at h; cases h)
    refine WP_seq (WP_region (WPO_all tt_ok (by kernel_rfl) ?_))
    refine WP_ret ?_
    exact ⟨.t [(false, [.int .i64 0]), (false, [.int .i64 (askN b)])], by kernel_rfl, fun nV w' h => ⟨by rw [show nearA b ship minute = (0, askN b) from by unfold nearA; simp only [hq, hc1, cond_true, cond_false]]; rfl, h.bel⟩⟩
  · obtain ⟨hq1, hq2⟩ := ask_two hq
    have hv : Valid b := check_valid.1 hq1
    have hbs := hv.nships
    have hbc := hv.cr
    have hbl := hv.sl
    have hw2 := within_two hq2
    refine calls_of_WP (cx := cx0 w (vn [g0, g1]) 2) (n := vn [g0, g1]) (vs := [.g [.ref 0, .int .i64 b.hear.lo, .int .i64 b.hear.hi, .int .i64 b.br, .int .i64 b.cr, .int .i64 b.sl, .ref 1], .s (.int .i64 ship), .s (.int .i64 minute)]) (hp := [(0, .sl .ro 65 5 b.ships encShip zShip), (1, .sl .ro 70 4 b.sights encSight zSight), (2, .pf AsksAt (· = 0))]) (nx := 3) tt_ok Tryd.func35 rfl rfl rfl (by kernel_rfl) (HSat_args (vn_one (by simp [r0.one, r1.one])) (by decide) ⟨⟨⟨fun _ => rfl, by decide, r0⟩, (Nat.le_of_ble_eq_true rfl)⟩, ⟨⟨fun _ => rfl, by decide, r1⟩, (Nat.le_of_ble_eq_true rfl)⟩, ⟨⟨ha, fun w1 w2 h1 hw => (hw 0 rfl).trans h1, fun g hg => by cases hg; exact (Array.getElem?_eq_some_iff.1 ha).1⟩, (Nat.le_of_ble_eq_true rfl)⟩, trivial⟩) (vsOk (by kernel_rfl)) ?_
    have hl0 := Reads.len r0
    have hl1 := Reads.len r1
    refine WP_seq (WP_region (WPO_all tt_ok (by kernel_rfl) ?_))
    refine WP_seq (WP_toX (σ := List Nat) (fun mp4 => ⟨30, [(9, [], .s (.int .i64 (askT b))), (8, [], .s (.p 6 0)), (1, [], .s (.int .i64 ship)), (2, [], .s (.int .i64 minute))], [(6, .box 94 [.ref 0, .int .i64 b.hear.lo, .int .i64 b.hear.hi, .int .i64 b.br, .int .i64 b.cr, .int .i64 b.sl, .ref 1, .ref 4]), (5, pfK b [] mp4), (4, .sl .own 100 1 mp4 encM 0), (3, .box 27 [.ref 0, .int .i64 b.hear.lo, .int .i64 b.hear.hi, .int .i64 b.br, .int .i64 b.cr, .int .i64 b.sl, .ref 1]), (0, .sl .ro 65 5 b.ships encShip zShip), (1, .sl .ro 70 4 b.sights encSight zSight), (2, .pf AsksAt (· = 0))], 7, []⟩) ?_ ?_)
    · refine WP_drawH [] (by kernel_rfl) (by kernel_rfl) ?_
      refine H_run tt_ok [0, 1, 2] (f' := 12) (by kernel_rfl) (by kernel_rfl) (by kernel_rfl) ?_
      refine H_two 3 12 (by kernel_rfl) (by kernel_rfl) (by kernel_rfl) (fun hfz cx' hx1 hx2 => ?_) (fun hfz cx' hx1 hx2 => ?_)
      · refine CALL 84 [.g [.ref 0, .int .i64 b.hear.lo, .int .i64 b.hear.hi, .int .i64 b.br, .int .i64 b.cr, .int .i64 b.sl, .ref 1], .s (.int .i64 ship)] (.s (.bool (withinF ship 0 (b.ships.length - 1)))) [] (by kernel_rfl) (goes_of (by kernel_rfl)) (by kernel_rfl) (by kernel_rfl) (fun _ nV w h => isShip_calls (nV 0) (nV 1) b _ w ⟨h.reads (id := 0) (kd := .ro) (e := 65) (by kernel_rfl), h.reads (id := 1) (kd := .ro) (e := 70) (by kernel_rfl)⟩) ?_
        refine WPO_end (by kernel_rfl) ⟨rfl, (hfz.fnds [3, 0, 1, 2] (by kernel_rfl) ⟨by kernel_rfl, by kernel_rfl, by kernel_rfl, by kernel_rfl, trivial⟩ (by kernel_rfl)), ?_⟩
        refine H_run tt_ok [4, 5] (f' := 9) (by kernel_rfl) (by kernel_rfl) (by kernel_rfl) ?_
        refine H_two 6 12 (by kernel_rfl) (by kernel_rfl) (by kernel_rfl) (fun hfz cx' hx1 hx2 => ?_) (fun hfz cx' hx1 hx2 => ?_)
        · refine CALL 85 [.s (.int .i64 minute)] (.s (.bool (withinF minute 0 200))) [(withinF ship 0 (b.ships.length - 1), true)] (by kernel_rfl) (goes_of (by kernel_rfl)) (by kernel_rfl) (by kernel_rfl) (fun _ _ w _ => isMinute_calls _ w) ?_
          refine WPO_end (by kernel_rfl) ⟨rfl, (hfz.fnds [3, 0, 1, 2] (by kernel_rfl) ⟨by kernel_rfl, by kernel_rfl, by kernel_rfl, by kernel_rfl, trivial⟩ (by kernel_rfl)), ?_⟩
          refine H_run tt_ok [7] (f' := 7) (by kernel_rfl) (by kernel_rfl) (by kernel_rfl) ?_
          refine H_two 8 12 (by kernel_rfl) (by kernel_rfl) (by kernel_rfl) (fun hfz cx' hx1 hx2 => ?_) (fun hfz cx' hx1 hx2 => ?_)
          · refine CALLMAPS 76 [.g [.ref 0, .int .i64 b.hear.lo, .int .i64 b.hear.hi, .int .i64 b.br, .int .i64 b.cr, .int .i64 b.sl, .ref 1], .s (.bool ((withinF ship 0 (b.ships.length - 1)) && (withinF minute 0 200)))] (.t [(true, [.ref 0, .int .i64 b.hear.lo, .int .i64 b.hear.hi, .int .i64 b.br, .int .i64 b.cr, .int .i64 b.sl, .ref 1, .ref 4]), (false, [.int .i64 (askT b)])]) 100 encM (CanF b []) 4 (by kernel_rfl) (by kernel_rfl) (by kernel_rfl) (goes_of (by kernel_rfl)) (fun _ => (by kernel_rfl)) (fun _ => (by kernel_rfl)) (fun _ => rfl) (fun m w1 w2 h1 h2 => CanF.stab m w1 w2 h1 h2) (fun m w h1 => CanF.maps m w h1) (fun nV w h => asked_yes (nV 0) (nV 1) b _ w ⟨h.reads (id := 0) (kd := .ro) (e := 65) (by kernel_rfl), h.reads (id := 1) (kd := .ro) (e := 70) (by kernel_rfl)⟩ hq1 hq2) (fun mp9 => ?_)
            refine WPO_end (by kernel_rfl) ⟨rfl, (hfz.fnds [3, 0, 1, 2] (by kernel_rfl) ⟨by kernel_rfl, by kernel_rfl, by kernel_rfl, by kernel_rfl, trivial⟩ (by kernel_rfl)), ?_⟩
            refine H_run tt_ok [9, 10, 11] (f' := 3) (by kernel_rfl) (by kernel_rfl) (by kernel_rfl) ?_
            refine H_step 12 (by kernel_rfl) (by kernel_rfl) (fun hfz cx' hx1 hx2 => ?_)
            refine WPO_all tt_ok (by kernel_rfl) ?_
            refine ⟨rfl, (hfz.fnds [3, 0, 1, 2] (by kernel_rfl) ⟨by kernel_rfl, by kernel_rfl, by kernel_rfl, by kernel_rfl, trivial⟩ (by kernel_rfl)), ?_⟩
            refine H_step 13 (by kernel_rfl) (by kernel_rfl) (fun hfz cx' hx1 hx2 => ?_)
            refine WPO_all tt_ok (by kernel_rfl) ?_
            refine ⟨rfl, (hfz.fnds [3, 0, 1, 2] (by kernel_rfl) ⟨by kernel_rfl, by kernel_rfl, by kernel_rfl, by kernel_rfl, trivial⟩ (by kernel_rfl)), ?_⟩
            refine H_run tt_ok [14] (f' := 0) (by kernel_rfl) (by kernel_rfl) (by kernel_rfl) ?_
            refine H_done (by kernel_rfl) ?_
            exact ⟨mp9, Le_sel (ts := [9, 8, 1, 2]) (ids := [6, 5, 4, 3, 0, 1, 2]) (nx := 7) (by kernel_rfl)⟩
          · refine WPO_all tt_ok (by kernel_rfl) ?_
            refine ⟨rfl, (hfz.fnds [3, 0, 1, 2] (by kernel_rfl) ⟨by kernel_rfl, by kernel_rfl, by kernel_rfl, by kernel_rfl, trivial⟩ (by kernel_rfl)), ?_⟩
            refine H_step 8 (by kernel_rfl) (by kernel_rfl) (fun hfz cx' hx1 hx2 => ?_)
            refine CALLMAPS 76 [.g [.ref 0, .int .i64 b.hear.lo, .int .i64 b.hear.hi, .int .i64 b.br, .int .i64 b.cr, .int .i64 b.sl, .ref 1], .s (.bool ((withinF ship 0 (b.ships.length - 1)) && (withinF minute 0 200)))] (.t [(true, [.ref 0, .int .i64 b.hear.lo, .int .i64 b.hear.hi, .int .i64 b.br, .int .i64 b.cr, .int .i64 b.sl, .ref 1, .ref 5]), (false, [.int .i64 (askT b)])]) 100 encM (CanF b []) 5 (by kernel_rfl) (by kernel_rfl) (by kernel_rfl) (goes_of (by kernel_rfl)) (fun _ => (by kernel_rfl)) (fun _ => (by kernel_rfl)) (fun _ => rfl) (fun m w1 w2 h1 h2 => CanF.stab m w1 w2 h1 h2) (fun m w h1 => CanF.maps m w h1) (fun nV w h => asked_yes (nV 0) (nV 1) b _ w ⟨h.reads (id := 0) (kd := .ro) (e := 65) (by kernel_rfl), h.reads (id := 1) (kd := .ro) (e := 70) (by kernel_rfl)⟩ hq1 hq2) (fun mp10 => ?_)
            refine WPO_end (by kernel_rfl) ⟨rfl, (hfz.fnds [3, 0, 1, 2] (by kernel_rfl) ⟨by kernel_rfl, by kernel_rfl, by kernel_rfl, by kernel_rfl, trivial⟩ (by kernel_rfl)), ?_⟩
            refine H_run tt_ok [9, 10, 11] (f' := 2) (by kernel_rfl) (by kernel_rfl) (by kernel_rfl) ?_
            refine H_step 13 (by kernel_rfl) (by kernel_rfl) (fun hfz cx' hx1 hx2 => ?_)
            refine WPO_all tt_ok (by kernel_rfl) ?_
            refine ⟨rfl, (hfz.fnds [3, 0, 1, 2] (by kernel_rfl) ⟨by kernel_rfl, by kernel_rfl, by kernel_rfl, by kernel_rfl, trivial⟩ (by kernel_rfl)), ?_⟩
            refine H_run tt_ok [14] (f' := 0) (by kernel_rfl) (by kernel_rfl) (by kernel_rfl) ?_
            refine H_done (by kernel_rfl) ?_
            exact ⟨mp10, Le_ren [(6, 4), (5, 6), (4, 5)] ⟨by kernel_rfl, by kernel_rfl, by kernel_rfl, by kernel_rfl, by kernel_rfl, by kernel_rfl, by kernel_rfl, trivial⟩ ⟨by kernel_rfl, rfl, by kernel_rfl, by kernel_rfl, rfl, by kernel_rfl, by kernel_rfl, rfl, by kernel_rfl, by kernel_rfl, rfl, by kernel_rfl, trivial⟩ (by kernel_rfl) (by kernel_rfl) (rnm_id (m := 2) (by kernel_rfl)) (by show 2 ≤ 7; decide) (by kernel_rfl) (by kernel_rfl)⟩
        · refine WPO_all tt_ok (by kernel_rfl) ?_
          refine ⟨rfl, (hfz.fnds [3, 0, 1, 2] (by kernel_rfl) ⟨by kernel_rfl, by kernel_rfl, by kernel_rfl, by kernel_rfl, trivial⟩ (by kernel_rfl)), ?_⟩
          refine H_step 6 (by kernel_rfl) (by kernel_rfl) (fun hfz cx' hx1 hx2 => ?_)
          refine CALL 85 [.s (.int .i64 minute)] (.s (.bool (withinF minute 0 200))) [(withinF ship 0 (b.ships.length - 1), true)] (by kernel_rfl) (goes_of (by kernel_rfl)) (by kernel_rfl) (by kernel_rfl) (fun _ _ w _ => isMinute_calls _ w) ?_
          refine WPO_end (by kernel_rfl) ⟨rfl, (hfz.fnds [3, 0, 1, 2] (by kernel_rfl) ⟨by kernel_rfl, by kernel_rfl, by kernel_rfl, by kernel_rfl, trivial⟩ (by kernel_rfl)), ?_⟩
          refine H_run tt_ok [7] (f' := 6) (by kernel_rfl) (by kernel_rfl) (by kernel_rfl) ?_
          refine H_step 8 (by kernel_rfl) (by kernel_rfl) (fun hfz cx' hx1 hx2 => ?_)
          refine CALLMAPS 76 [.g [.ref 0, .int .i64 b.hear.lo, .int .i64 b.hear.hi, .int .i64 b.br, .int .i64 b.cr, .int .i64 b.sl, .ref 1], .s (.bool ((withinF ship 0 (b.ships.length - 1)) && (withinF minute 0 200)))] (.t [(true, [.ref 0, .int .i64 b.hear.lo, .int .i64 b.hear.hi, .int .i64 b.br, .int .i64 b.cr, .int .i64 b.sl, .ref 1, .ref 5]), (false, [.int .i64 (askT b)])]) 100 encM (CanF b []) 5 (by kernel_rfl) (by kernel_rfl) (by kernel_rfl) (goes_of (by kernel_rfl)) (fun _ => (by kernel_rfl)) (fun _ => (by kernel_rfl)) (fun _ => rfl) (fun m w1 w2 h1 h2 => CanF.stab m w1 w2 h1 h2) (fun m w h1 => CanF.maps m w h1) (fun nV w h => asked_yes (nV 0) (nV 1) b _ w ⟨h.reads (id := 0) (kd := .ro) (e := 65) (by kernel_rfl), h.reads (id := 1) (kd := .ro) (e := 70) (by kernel_rfl)⟩ hq1 hq2) (fun mp11 => ?_)
          refine WPO_end (by kernel_rfl) ⟨rfl, (hfz.fnds [3, 0, 1, 2] (by kernel_rfl) ⟨by kernel_rfl, by kernel_rfl, by kernel_rfl, by kernel_rfl, trivial⟩ (by kernel_rfl)), ?_⟩
          refine H_run tt_ok [9, 10, 11] (f' := 2) (by kernel_rfl) (by kernel_rfl) (by kernel_rfl) ?_
          refine H_step 13 (by kernel_rfl) (by kernel_rfl) (fun hfz cx' hx1 hx2 => ?_)
          refine WPO_all tt_ok (by kernel_rfl) ?_
          refine ⟨rfl, (hfz.fnds [3, 0, 1, 2] (by kernel_rfl) ⟨by kernel_rfl, by kernel_rfl, by kernel_rfl, by kernel_rfl, trivial⟩ (by kernel_rfl)), ?_⟩
          refine H_run tt_ok [14] (f' := 0) (by kernel_rfl) (by kernel_rfl) (by kernel_rfl) ?_
          refine H_done (by kernel_rfl) ?_
          exact ⟨mp11, Le_ren [(6, 4), (5, 6), (4, 5)] ⟨by kernel_rfl, by kernel_rfl, by kernel_rfl, by kernel_rfl, by kernel_rfl, by kernel_rfl, by kernel_rfl, trivial⟩ ⟨by kernel_rfl, rfl, by kernel_rfl, by kernel_rfl, rfl, by kernel_rfl, by kernel_rfl, rfl, by kernel_rfl, by kernel_rfl, rfl, by kernel_rfl, trivial⟩ (by kernel_rfl) (by kernel_rfl) (rnm_id (m := 2) (by kernel_rfl)) (by show 2 ≤ 7; decide) (by kernel_rfl) (by kernel_rfl)⟩
      · refine WPO_all tt_ok (by kernel_rfl) ?_
        refine ⟨rfl, (hfz.fnds [3, 0, 1, 2] (by kernel_rfl) ⟨by kernel_rfl, by kernel_rfl, by kernel_rfl, by kernel_rfl, trivial⟩ (by kernel_rfl)), ?_⟩
        refine H_step 3 (by kernel_rfl) (by kernel_rfl) (fun hfz cx' hx1 hx2 => ?_)
        refine CALL 84 [.g [.ref 0, .int .i64 b.hear.lo, .int .i64 b.hear.hi, .int .i64 b.br, .int .i64 b.cr, .int .i64 b.sl, .ref 1], .s (.int .i64 ship)] (.s (.bool (withinF ship 0 (b.ships.length - 1)))) [] (by kernel_rfl) (goes_of (by kernel_rfl)) (by kernel_rfl) (by kernel_rfl) (fun _ nV w h => isShip_calls (nV 0) (nV 1) b _ w ⟨h.reads (id := 0) (kd := .ro) (e := 65) (by kernel_rfl), h.reads (id := 1) (kd := .ro) (e := 70) (by kernel_rfl)⟩) ?_
        refine WPO_end (by kernel_rfl) ⟨rfl, (hfz.fnds [3, 0, 1, 2] (by kernel_rfl) ⟨by kernel_rfl, by kernel_rfl, by kernel_rfl, by kernel_rfl, trivial⟩ (by kernel_rfl)), ?_⟩
        refine H_run tt_ok [4, 5] (f' := 8) (by kernel_rfl) (by kernel_rfl) (by kernel_rfl) ?_
        refine H_step 6 (by kernel_rfl) (by kernel_rfl) (fun hfz cx' hx1 hx2 => ?_)
        refine CALL 85 [.s (.int .i64 minute)] (.s (.bool (withinF minute 0 200))) [(withinF ship 0 (b.ships.length - 1), true)] (by kernel_rfl) (goes_of (by kernel_rfl)) (by kernel_rfl) (by kernel_rfl) (fun _ _ w _ => isMinute_calls _ w) ?_
        refine WPO_end (by kernel_rfl) ⟨rfl, (hfz.fnds [3, 0, 1, 2] (by kernel_rfl) ⟨by kernel_rfl, by kernel_rfl, by kernel_rfl, by kernel_rfl, trivial⟩ (by kernel_rfl)), ?_⟩
        refine H_run tt_ok [7] (f' := 6) (by kernel_rfl) (by kernel_rfl) (by kernel_rfl) ?_
        refine H_step 8 (by kernel_rfl) (by kernel_rfl) (fun hfz cx' hx1 hx2 => ?_)
        refine CALLMAPS 76 [.g [.ref 0, .int .i64 b.hear.lo, .int .i64 b.hear.hi, .int .i64 b.br, .int .i64 b.cr, .int .i64 b.sl, .ref 1], .s (.bool ((withinF ship 0 (b.ships.length - 1)) && (withinF minute 0 200)))] (.t [(true, [.ref 0, .int .i64 b.hear.lo, .int .i64 b.hear.hi, .int .i64 b.br, .int .i64 b.cr, .int .i64 b.sl, .ref 1, .ref 5]), (false, [.int .i64 (askT b)])]) 100 encM (CanF b []) 5 (by kernel_rfl) (by kernel_rfl) (by kernel_rfl) (goes_of (by kernel_rfl)) (fun _ => (by kernel_rfl)) (fun _ => (by kernel_rfl)) (fun _ => rfl) (fun m w1 w2 h1 h2 => CanF.stab m w1 w2 h1 h2) (fun m w h1 => CanF.maps m w h1) (fun nV w h => asked_yes (nV 0) (nV 1) b _ w ⟨h.reads (id := 0) (kd := .ro) (e := 65) (by kernel_rfl), h.reads (id := 1) (kd := .ro) (e := 70) (by kernel_rfl)⟩ hq1 hq2) (fun mp12 => ?_)
        refine WPO_end (by kernel_rfl) ⟨rfl, (hfz.fnds [3, 0, 1, 2] (by kernel_rfl) ⟨by kernel_rfl, by kernel_rfl, by kernel_rfl, by kernel_rfl, trivial⟩ (by kernel_rfl)), ?_⟩
        refine H_run tt_ok [9, 10, 11] (f' := 2) (by kernel_rfl) (by kernel_rfl) (by kernel_rfl) ?_
        refine H_step 13 (by kernel_rfl) (by kernel_rfl) (fun hfz cx' hx1 hx2 => ?_)
        refine WPO_all tt_ok (by kernel_rfl) ?_
        refine ⟨rfl, (hfz.fnds [3, 0, 1, 2] (by kernel_rfl) ⟨by kernel_rfl, by kernel_rfl, by kernel_rfl, by kernel_rfl, trivial⟩ (by kernel_rfl)), ?_⟩
        refine H_run tt_ok [14] (f' := 0) (by kernel_rfl) (by kernel_rfl) (by kernel_rfl) ?_
        refine H_done (by kernel_rfl) ?_
        exact ⟨mp12, Le_ren [(6, 4), (5, 6), (4, 5)] ⟨by kernel_rfl, by kernel_rfl, by kernel_rfl, by kernel_rfl, by kernel_rfl, by kernel_rfl, by kernel_rfl, trivial⟩ ⟨by kernel_rfl, rfl, by kernel_rfl, by kernel_rfl, rfl, by kernel_rfl, by kernel_rfl, rfl, by kernel_rfl, by kernel_rfl, rfl, by kernel_rfl, trivial⟩ (by kernel_rfl) (by kernel_rfl) (rnm_id (m := 2) (by kernel_rfl)) (by show 2 ≤ 7; decide) (by kernel_rfl) (by kernel_rfl)⟩
    intro mp4
    refine WP_seq (WP_seq (WP_region (WPO_all tt_ok (by kernel_rfl) ?_)))
    refine WP_cond ((askT b) != 0) (by kernel_rfl) (fun hc3 => ?_) (fun hc3 => ?_)
    · have hc3' := hc3; try simp only [Bool.and_eq_true, Bool.or_eq_true, Bool.and_eq_false_iff, Bool.or_eq_false_iff, Bool.not_eq_true', Bool.not_eq_false', decide_eq_true_eq, decide_eq_false_iff_not, beq_iff_eq, beq_eq_false_iff_ne, bne_iff_ne, bne_eq_false_iff_eq, ne_eq] at hc3'
      refine WP_seq (WP_region (WPO_all tt_ok (by kernel_rfl) ?_))
      refine WP_ret ?_
      exact ⟨.t [(false, [.int .i64 0]), (false, [.int .i64 (askT b)])], by kernel_rfl, fun nV w' h => ⟨by rw [show nearA b ship minute = (0, askT b) from by unfold nearA; simp only [hq, hc3, cond_true, cond_false]]; rfl, h.bel⟩⟩
    have hc3' := hc3; try simp only [Bool.and_eq_true, Bool.or_eq_true, Bool.and_eq_false_iff, Bool.or_eq_false_iff, Bool.not_eq_true', Bool.not_eq_false', decide_eq_true_eq, decide_eq_false_iff_not, beq_iff_eq, beq_eq_false_iff_ne, bne_iff_ne, bne_eq_false_iff_eq, ne_eq] at hc3'
    refine WP_skip ?_
    refine WP_seq (WP_region (WPO_run tt_ok 4 (by kernel_rfl) ?_))
    refine CALL 86 [.g [.ref 0, .int .i64 b.hear.lo, .int .i64 b.hear.hi, .int .i64 b.br, .int .i64 b.cr, .int .i64 b.sl, .ref 1, .ref 4], .s (.int .i64 ship), .g [.int .i64 minute, .int .i64 1]] (.s (.int .i64 (near02 b ([]) ship.toNat minute.toNat (1 : Int).toNat))) [] (by kernel_rfl) (goes_of (by kernel_rfl)) (by kernel_rfl) (by kernel_rfl) (fun _ nV w h => near_callsI (nV 0) (nV 1) (nV 4) b ([]) mp4 ship minute 1 w ⟨h.reads (id := 0) (kd := .ro) (e := 65) (by kernel_rfl), h.reads (id := 1) (kd := .ro) (e := 70) (by kernel_rfl)⟩ (HSat_toK 4 5 .own h (by kernel_rfl) (by kernel_rfl)) (h.ents (2, .pf AsksAt (· = 0)) (fnd_mem (by kernel_rfl))).1 (by first | assumption | omega | (constructor <;> omega) | (refine ⟨?_, ?_, ?_⟩ <;> omega)) (by first | assumption | omega | (constructor <;> omega) | (refine ⟨?_, ?_, ?_⟩ <;> omega))) ?_
    refine WPO_all tt_ok (by kernel_rfl) ?_
    refine WP_ret ?_
    exact ⟨.t [(false, [.int .i64 (near02 b ([]) ship.toNat minute.toNat (1 : Int).toNat)]), (false, [.int .i64 0])], by kernel_rfl, fun nV w' h => ⟨by rw [show nearA b ship minute = (near02 b ([]) ship.toNat minute.toNat (1 : Int).toNat, 0) from by unfold nearA; simp only [hq, hc3, cond_true, cond_false]]; rfl, h.bel⟩⟩
def clearA (b : Book) (begin : Int) : Int × Int :=
  (bif (checkW b == 0) && (withinF begin 0 60) then (bif (askT b) != 0 then (0, askT b) else (clearF b ([]) begin, 0)) else (bif (askN b) != 0 then (0, askN b) else (0, askN b)))
theorem clearA_calls (g0 g1 : Value) (b : Book) (begin : Int) (w : World) (r0 : Reads w g0 5 b.ships encShip zShip) (r1 : Reads w g1 4 b.sights encSight zSight) (ha : AsksAt w) : Calls Tryd.prog 28 #[.agg #[g0, iv b.hear.lo, iv b.hear.hi, iv b.br, iv b.cr, iv b.sl, g1], iv begin] w fun e w' => e = .returned (.tuple #[iv (clearA b begin).1, iv (clearA b begin).2]) ∧ Below w.heap.size w w' := by
  cases hq : ((checkW b == 0) && (withinF begin 0 60))
  · refine calls_of_WP (cx := cx0 w (vn [g0, g1]) 2) (n := vn [g0, g1]) (vs := [.g [.ref 0, .int .i64 b.hear.lo, .int .i64 b.hear.hi, .int .i64 b.br, .int .i64 b.cr, .int .i64 b.sl, .ref 1], .s (.int .i64 begin)]) (hp := [(0, .sl .ro 65 5 b.ships encShip zShip), (1, .sl .ro 70 4 b.sights encSight zSight), (2, .pf AsksAt (· = 0))]) (nx := 3) tt_ok Tryd.func28 rfl rfl rfl (by kernel_rfl) (HSat_args (vn_one (by simp [r0.one, r1.one])) (by decide) ⟨⟨⟨fun _ => rfl, by decide, r0⟩, (Nat.le_of_ble_eq_true rfl)⟩, ⟨⟨fun _ => rfl, by decide, r1⟩, (Nat.le_of_ble_eq_true rfl)⟩, ⟨⟨ha, fun w1 w2 h1 hw => (hw 0 rfl).trans h1, fun g hg => by cases hg; exact (Array.getElem?_eq_some_iff.1 ha).1⟩, (Nat.le_of_ble_eq_true rfl)⟩, trivial⟩) (vsOk (by kernel_rfl)) ?_
    have hl0 := Reads.len r0
    have hl1 := Reads.len r1
    refine WP_seq (WP_region (WPO_all tt_ok (by kernel_rfl) ?_))
    refine WP_seq (WP_toX (σ := Unit) (fun _ => ⟨21, [(7, [], .s (.int .i64 (askN b))), (6, [], .s (.p 4 0)), (1, [], .s (.int .i64 begin))], [(4, .box 94 [.v (.slice none 0 0), .int .i64 0, .int .i64 0, .int .i64 0, .int .i64 0, .int .i64 0, .v (.slice none 0 0), .v (.slice none 0 0)]), (3, .box 27 [.ref 0, .int .i64 b.hear.lo, .int .i64 b.hear.hi, .int .i64 b.br, .int .i64 b.cr, .int .i64 b.sl, .ref 1]), (0, .sl .ro 65 5 b.ships encShip zShip), (1, .sl .ro 70 4 b.sights encSight zSight), (2, .pf AsksAt (· = 0))], 5, []⟩) ?_ ?_)
    · refine WP_drawH [] (by kernel_rfl) (by kernel_rfl) ?_
      refine H_run tt_ok [0, 1] (f' := 8) (by kernel_rfl) (by kernel_rfl) (by kernel_rfl) ?_
      refine H_two 2 7 (by kernel_rfl) (by kernel_rfl) (by kernel_rfl) (fun hfz cx' hx1 hx2 => ?_) (fun hfz cx' hx1 hx2 => ?_)
      · refine CALL 78 [.s (.int .i64 begin)] (.s (.bool (withinF begin 0 60))) [] (by kernel_rfl) (goes_of (by kernel_rfl)) (by kernel_rfl) (by kernel_rfl) (fun _ _ w _ => isBegin_calls _ w) ?_
        refine WPO_end (by kernel_rfl) ⟨rfl, (hfz.fnds [3, 0, 1, 2] (by kernel_rfl) ⟨by kernel_rfl, by kernel_rfl, by kernel_rfl, by kernel_rfl, trivial⟩ (by kernel_rfl)), ?_⟩
        refine H_two 3 7 (by kernel_rfl) (by kernel_rfl) (by kernel_rfl) (fun hfz cx' hx1 hx2 => ?_) (fun hfz cx' hx1 hx2 => ?_)
        · refine CALL 76 [.g [.ref 0, .int .i64 b.hear.lo, .int .i64 b.hear.hi, .int .i64 b.br, .int .i64 b.cr, .int .i64 b.sl, .ref 1], .s (.bool (withinF begin 0 60))] (.t [(true, [.v (.slice none 0 0), .int .i64 0, .int .i64 0, .int .i64 0, .int .i64 0, .int .i64 0, .v (.slice none 0 0), .v (.slice none 0 0)]), (false, [.int .i64 (askN b)])]) [] (by kernel_rfl) (goes_of (by kernel_rfl)) (by kernel_rfl) (by kernel_rfl) (fun _ nV w h => asked_no (nV 0) (nV 1) b _ w ⟨h.reads (id := 0) (kd := .ro) (e := 65) (by kernel_rfl), h.reads (id := 1) (kd := .ro) (e := 70) (by kernel_rfl)⟩ hq) ?_
          refine WPO_end (by kernel_rfl) ⟨rfl, (hfz.fnds [3, 0, 1, 2] (by kernel_rfl) ⟨by kernel_rfl, by kernel_rfl, by kernel_rfl, by kernel_rfl, trivial⟩ (by kernel_rfl)), ?_⟩
          refine H_run tt_ok [4, 5, 6] (f' := 3) (by kernel_rfl) (by kernel_rfl) (by kernel_rfl) ?_
          refine H_step 7 (by kernel_rfl) (by kernel_rfl) (fun hfz cx' hx1 hx2 => ?_)
          refine WPO_all tt_ok (by kernel_rfl) ?_
          refine ⟨rfl, (hfz.fnds [3, 0, 1, 2] (by kernel_rfl) ⟨by kernel_rfl, by kernel_rfl, by kernel_rfl, by kernel_rfl, trivial⟩ (by kernel_rfl)), ?_⟩
          refine H_step 8 (by kernel_rfl) (by kernel_rfl) (fun hfz cx' hx1 hx2 => ?_)
          refine WPO_all tt_ok (by kernel_rfl) ?_
          refine ⟨rfl, (hfz.fnds [3, 0, 1, 2] (by kernel_rfl) ⟨by kernel_rfl, by kernel_rfl, by kernel_rfl, by kernel_rfl, trivial⟩ (by kernel_rfl)), ?_⟩
          refine H_run tt_ok [9] (f' := 0) (by kernel_rfl) (by kernel_rfl) (by kernel_rfl) ?_
          refine H_done (by kernel_rfl) ?_
          exact ⟨(), Le_sel (ts := [7, 6, 1]) (ids := [4, 3, 0, 1, 2]) (nx := 5) (by kernel_rfl)⟩
        · refine WPO_all tt_ok (by kernel_rfl) ?_
          refine ⟨rfl, (hfz.fnds [3, 0, 1, 2] (by kernel_rfl) ⟨by kernel_rfl, by kernel_rfl, by kernel_rfl, by kernel_rfl, trivial⟩ (by kernel_rfl)), ?_⟩
          refine H_step 3 (by kernel_rfl) (by kernel_rfl) (fun hfz cx' hx1 hx2 => ?_)
          refine CALL 76 [.g [.ref 0, .int .i64 b.hear.lo, .int .i64 b.hear.hi, .int .i64 b.br, .int .i64 b.cr, .int .i64 b.sl, .ref 1], .s (.bool (withinF begin 0 60))] (.t [(true, [.v (.slice none 0 0), .int .i64 0, .int .i64 0, .int .i64 0, .int .i64 0, .int .i64 0, .v (.slice none 0 0), .v (.slice none 0 0)]), (false, [.int .i64 (askN b)])]) [] (by kernel_rfl) (goes_of (by kernel_rfl)) (by kernel_rfl) (by kernel_rfl) (fun _ nV w h => asked_no (nV 0) (nV 1) b _ w ⟨h.reads (id := 0) (kd := .ro) (e := 65) (by kernel_rfl), h.reads (id := 1) (kd := .ro) (e := 70) (by kernel_rfl)⟩ hq) ?_
          refine WPO_end (by kernel_rfl) ⟨rfl, (hfz.fnds [3, 0, 1, 2] (by kernel_rfl) ⟨by kernel_rfl, by kernel_rfl, by kernel_rfl, by kernel_rfl, trivial⟩ (by kernel_rfl)), ?_⟩
          refine H_run tt_ok [4, 5, 6] (f' := 2) (by kernel_rfl) (by kernel_rfl) (by kernel_rfl) ?_
          refine H_step 8 (by kernel_rfl) (by kernel_rfl) (fun hfz cx' hx1 hx2 => ?_)
          refine WPO_all tt_ok (by kernel_rfl) ?_
          refine ⟨rfl, (hfz.fnds [3, 0, 1, 2] (by kernel_rfl) ⟨by kernel_rfl, by kernel_rfl, by kernel_rfl, by kernel_rfl, trivial⟩ (by kernel_rfl)), ?_⟩
          refine H_run tt_ok [9] (f' := 0) (by kernel_rfl) (by kernel_rfl) (by kernel_rfl) ?_
          refine H_done (by kernel_rfl) ?_
          exact ⟨(), Le_sel (ts := [7, 6, 1]) (ids := [4, 3, 0, 1, 2]) (nx := 5) (by kernel_rfl)⟩
      · refine WPO_all tt_ok (by kernel_rfl) ?_
        refine ⟨rfl, (hfz.fnds [3, 0, 1, 2] (by kernel_rfl) ⟨by kernel_rfl, by kernel_rfl, by kernel_rfl, by kernel_rfl, trivial⟩ (by kernel_rfl)), ?_⟩
        refine H_step 2 (by kernel_rfl) (by kernel_rfl) (fun hfz cx' hx1 hx2 => ?_)
        refine CALL 78 [.s (.int .i64 begin)] (.s (.bool (withinF begin 0 60))) [] (by kernel_rfl) (goes_of (by kernel_rfl)) (by kernel_rfl) (by kernel_rfl) (fun _ _ w _ => isBegin_calls _ w) ?_
        refine WPO_end (by kernel_rfl) ⟨rfl, (hfz.fnds [3, 0, 1, 2] (by kernel_rfl) ⟨by kernel_rfl, by kernel_rfl, by kernel_rfl, by kernel_rfl, trivial⟩ (by kernel_rfl)), ?_⟩
        refine H_step 3 (by kernel_rfl) (by kernel_rfl) (fun hfz cx' hx1 hx2 => ?_)
        refine CALL 76 [.g [.ref 0, .int .i64 b.hear.lo, .int .i64 b.hear.hi, .int .i64 b.br, .int .i64 b.cr, .int .i64 b.sl, .ref 1], .s (.bool (withinF begin 0 60))] (.t [(true, [.v (.slice none 0 0), .int .i64 0, .int .i64 0, .int .i64 0, .int .i64 0, .int .i64 0, .v (.slice none 0 0), .v (.slice none 0 0)]), (false, [.int .i64 (askN b)])]) [] (by kernel_rfl) (goes_of (by kernel_rfl)) (by kernel_rfl) (by kernel_rfl) (fun _ nV w h => asked_no (nV 0) (nV 1) b _ w ⟨h.reads (id := 0) (kd := .ro) (e := 65) (by kernel_rfl), h.reads (id := 1) (kd := .ro) (e := 70) (by kernel_rfl)⟩ hq) ?_
        refine WPO_end (by kernel_rfl) ⟨rfl, (hfz.fnds [3, 0, 1, 2] (by kernel_rfl) ⟨by kernel_rfl, by kernel_rfl, by kernel_rfl, by kernel_rfl, trivial⟩ (by kernel_rfl)), ?_⟩
        refine H_run tt_ok [4, 5, 6] (f' := 2) (by kernel_rfl) (by kernel_rfl) (by kernel_rfl) ?_
        refine H_step 8 (by kernel_rfl) (by kernel_rfl) (fun hfz cx' hx1 hx2 => ?_)
        refine WPO_all tt_ok (by kernel_rfl) ?_
        refine ⟨rfl, (hfz.fnds [3, 0, 1, 2] (by kernel_rfl) ⟨by kernel_rfl, by kernel_rfl, by kernel_rfl, by kernel_rfl, trivial⟩ (by kernel_rfl)), ?_⟩
        refine H_run tt_ok [9] (f' := 0) (by kernel_rfl) (by kernel_rfl) (by kernel_rfl) ?_
        refine H_done (by kernel_rfl) ?_
        exact ⟨(), Le_sel (ts := [7, 6, 1]) (ids := [4, 3, 0, 1, 2]) (nx := 5) (by kernel_rfl)⟩
    intro _
    refine WP_seq (WP_seq (WP_region (WPO_all tt_ok (by kernel_rfl) ?_)))
    refine WP_cond ((askN b) != 0) (by kernel_rfl) (fun hc1 => ?_) (fun h => by rw [askN_ne b] at h; cases h)
    refine WP_seq (WP_region (WPO_all tt_ok (by kernel_rfl) ?_))
    refine WP_ret ?_
    exact ⟨.t [(false, [.int .i64 0]), (false, [.int .i64 (askN b)])], by kernel_rfl, fun nV w' h => ⟨by rw [show clearA b begin = (0, askN b) from by unfold clearA; simp only [hq, hc1, cond_true, cond_false]]; rfl, h.bel⟩⟩
  · obtain ⟨hq1, hq2⟩ := ask_two hq
    have hv : Valid b := check_valid.1 hq1
    have hbs := hv.nships
    have hbc := hv.cr
    have hbl := hv.sl
    have hw1 := within_one hq2
    refine calls_of_WP (cx := cx0 w (vn [g0, g1]) 2) (n := vn [g0, g1]) (vs := [.g [.ref 0, .int .i64 b.hear.lo, .int .i64 b.hear.hi, .int .i64 b.br, .int .i64 b.cr, .int .i64 b.sl, .ref 1], .s (.int .i64 begin)]) (hp := [(0, .sl .ro 65 5 b.ships encShip zShip), (1, .sl .ro 70 4 b.sights encSight zSight), (2, .pf AsksAt (· = 0))]) (nx := 3) tt_ok Tryd.func28 rfl rfl rfl (by kernel_rfl) (HSat_args (vn_one (by simp [r0.one, r1.one])) (by decide) ⟨⟨⟨fun _ => rfl, by decide, r0⟩, (Nat.le_of_ble_eq_true rfl)⟩, ⟨⟨fun _ => rfl, by decide, r1⟩, (Nat.le_of_ble_eq_true rfl)⟩, ⟨⟨ha, fun w1 w2 h1 hw => (hw 0 rfl).trans h1, fun g hg => by cases hg; exact (Array.getElem?_eq_some_iff.1 ha).1⟩, (Nat.le_of_ble_eq_true rfl)⟩, trivial⟩) (vsOk (by kernel_rfl)) ?_
    have hl0 := Reads.len r0
    have hl1 := Reads.len r1
    refine WP_seq (WP_region (WPO_all tt_ok (by kernel_rfl) ?_))
    refine WP_seq (WP_toX (σ := List Nat) (fun mp15 => ⟨21, [(7, [], .s (.int .i64 (askT b))), (6, [], .s (.p 6 0)), (1, [], .s (.int .i64 begin))], [(6, .box 94 [.ref 0, .int .i64 b.hear.lo, .int .i64 b.hear.hi, .int .i64 b.br, .int .i64 b.cr, .int .i64 b.sl, .ref 1, .ref 4]), (5, pfK b [] mp15), (4, .sl .own 100 1 mp15 encM 0), (3, .box 27 [.ref 0, .int .i64 b.hear.lo, .int .i64 b.hear.hi, .int .i64 b.br, .int .i64 b.cr, .int .i64 b.sl, .ref 1]), (0, .sl .ro 65 5 b.ships encShip zShip), (1, .sl .ro 70 4 b.sights encSight zSight), (2, .pf AsksAt (· = 0))], 7, []⟩) ?_ ?_)
    · refine WP_drawH [] (by kernel_rfl) (by kernel_rfl) ?_
      refine H_run tt_ok [0, 1] (f' := 8) (by kernel_rfl) (by kernel_rfl) (by kernel_rfl) ?_
      refine H_two 2 7 (by kernel_rfl) (by kernel_rfl) (by kernel_rfl) (fun hfz cx' hx1 hx2 => ?_) (fun hfz cx' hx1 hx2 => ?_)
      · refine CALL 78 [.s (.int .i64 begin)] (.s (.bool (withinF begin 0 60))) [] (by kernel_rfl) (goes_of (by kernel_rfl)) (by kernel_rfl) (by kernel_rfl) (fun _ _ w _ => isBegin_calls _ w) ?_
        refine WPO_end (by kernel_rfl) ⟨rfl, (hfz.fnds [3, 0, 1, 2] (by kernel_rfl) ⟨by kernel_rfl, by kernel_rfl, by kernel_rfl, by kernel_rfl, trivial⟩ (by kernel_rfl)), ?_⟩
        refine H_two 3 7 (by kernel_rfl) (by kernel_rfl) (by kernel_rfl) (fun hfz cx' hx1 hx2 => ?_) (fun hfz cx' hx1 hx2 => ?_)
        · refine CALLMAPS 76 [.g [.ref 0, .int .i64 b.hear.lo, .int .i64 b.hear.hi, .int .i64 b.br, .int .i64 b.cr, .int .i64 b.sl, .ref 1], .s (.bool (withinF begin 0 60))] (.t [(true, [.ref 0, .int .i64 b.hear.lo, .int .i64 b.hear.hi, .int .i64 b.br, .int .i64 b.cr, .int .i64 b.sl, .ref 1, .ref 4]), (false, [.int .i64 (askT b)])]) 100 encM (CanF b []) 4 (by kernel_rfl) (by kernel_rfl) (by kernel_rfl) (goes_of (by kernel_rfl)) (fun _ => (by kernel_rfl)) (fun _ => (by kernel_rfl)) (fun _ => rfl) (fun m w1 w2 h1 h2 => CanF.stab m w1 w2 h1 h2) (fun m w h1 => CanF.maps m w h1) (fun nV w h => asked_yes (nV 0) (nV 1) b _ w ⟨h.reads (id := 0) (kd := .ro) (e := 65) (by kernel_rfl), h.reads (id := 1) (kd := .ro) (e := 70) (by kernel_rfl)⟩ hq1 hq2) (fun mp19 => ?_)
          refine WPO_end (by kernel_rfl) ⟨rfl, (hfz.fnds [3, 0, 1, 2] (by kernel_rfl) ⟨by kernel_rfl, by kernel_rfl, by kernel_rfl, by kernel_rfl, trivial⟩ (by kernel_rfl)), ?_⟩
          refine H_run tt_ok [4, 5, 6] (f' := 3) (by kernel_rfl) (by kernel_rfl) (by kernel_rfl) ?_
          refine H_step 7 (by kernel_rfl) (by kernel_rfl) (fun hfz cx' hx1 hx2 => ?_)
          refine WPO_all tt_ok (by kernel_rfl) ?_
          refine ⟨rfl, (hfz.fnds [3, 0, 1, 2] (by kernel_rfl) ⟨by kernel_rfl, by kernel_rfl, by kernel_rfl, by kernel_rfl, trivial⟩ (by kernel_rfl)), ?_⟩
          refine H_step 8 (by kernel_rfl) (by kernel_rfl) (fun hfz cx' hx1 hx2 => ?_)
          refine WPO_all tt_ok (by kernel_rfl) ?_
          refine ⟨rfl, (hfz.fnds [3, 0, 1, 2] (by kernel_rfl) ⟨by kernel_rfl, by kernel_rfl, by kernel_rfl, by kernel_rfl, trivial⟩ (by kernel_rfl)), ?_⟩
          refine H_run tt_ok [9] (f' := 0) (by kernel_rfl) (by kernel_rfl) (by kernel_rfl) ?_
          refine H_done (by kernel_rfl) ?_
          exact ⟨mp19, Le_sel (ts := [7, 6, 1]) (ids := [6, 5, 4, 3, 0, 1, 2]) (nx := 7) (by kernel_rfl)⟩
        · refine WPO_all tt_ok (by kernel_rfl) ?_
          refine ⟨rfl, (hfz.fnds [3, 0, 1, 2] (by kernel_rfl) ⟨by kernel_rfl, by kernel_rfl, by kernel_rfl, by kernel_rfl, trivial⟩ (by kernel_rfl)), ?_⟩
          refine H_step 3 (by kernel_rfl) (by kernel_rfl) (fun hfz cx' hx1 hx2 => ?_)
          refine CALLMAPS 76 [.g [.ref 0, .int .i64 b.hear.lo, .int .i64 b.hear.hi, .int .i64 b.br, .int .i64 b.cr, .int .i64 b.sl, .ref 1], .s (.bool (withinF begin 0 60))] (.t [(true, [.ref 0, .int .i64 b.hear.lo, .int .i64 b.hear.hi, .int .i64 b.br, .int .i64 b.cr, .int .i64 b.sl, .ref 1, .ref 5]), (false, [.int .i64 (askT b)])]) 100 encM (CanF b []) 5 (by kernel_rfl) (by kernel_rfl) (by kernel_rfl) (goes_of (by kernel_rfl)) (fun _ => (by kernel_rfl)) (fun _ => (by kernel_rfl)) (fun _ => rfl) (fun m w1 w2 h1 h2 => CanF.stab m w1 w2 h1 h2) (fun m w h1 => CanF.maps m w h1) (fun nV w h => asked_yes (nV 0) (nV 1) b _ w ⟨h.reads (id := 0) (kd := .ro) (e := 65) (by kernel_rfl), h.reads (id := 1) (kd := .ro) (e := 70) (by kernel_rfl)⟩ hq1 hq2) (fun mp20 => ?_)
          refine WPO_end (by kernel_rfl) ⟨rfl, (hfz.fnds [3, 0, 1, 2] (by kernel_rfl) ⟨by kernel_rfl, by kernel_rfl, by kernel_rfl, by kernel_rfl, trivial⟩ (by kernel_rfl)), ?_⟩
          refine H_run tt_ok [4, 5, 6] (f' := 2) (by kernel_rfl) (by kernel_rfl) (by kernel_rfl) ?_
          refine H_step 8 (by kernel_rfl) (by kernel_rfl) (fun hfz cx' hx1 hx2 => ?_)
          refine WPO_all tt_ok (by kernel_rfl) ?_
          refine ⟨rfl, (hfz.fnds [3, 0, 1, 2] (by kernel_rfl) ⟨by kernel_rfl, by kernel_rfl, by kernel_rfl, by kernel_rfl, trivial⟩ (by kernel_rfl)), ?_⟩
          refine H_run tt_ok [9] (f' := 0) (by kernel_rfl) (by kernel_rfl) (by kernel_rfl) ?_
          refine H_done (by kernel_rfl) ?_
          exact ⟨mp20, Le_ren [(6, 4), (5, 6), (4, 5)] ⟨by kernel_rfl, by kernel_rfl, by kernel_rfl, by kernel_rfl, by kernel_rfl, by kernel_rfl, by kernel_rfl, trivial⟩ ⟨by kernel_rfl, rfl, by kernel_rfl, by kernel_rfl, rfl, by kernel_rfl, by kernel_rfl, rfl, by kernel_rfl, trivial⟩ (by kernel_rfl) (by kernel_rfl) (rnm_id (m := 2) (by kernel_rfl)) (by show 2 ≤ 7; decide) (by kernel_rfl) (by kernel_rfl)⟩
      · refine WPO_all tt_ok (by kernel_rfl) ?_
        refine ⟨rfl, (hfz.fnds [3, 0, 1, 2] (by kernel_rfl) ⟨by kernel_rfl, by kernel_rfl, by kernel_rfl, by kernel_rfl, trivial⟩ (by kernel_rfl)), ?_⟩
        refine H_step 2 (by kernel_rfl) (by kernel_rfl) (fun hfz cx' hx1 hx2 => ?_)
        refine CALL 78 [.s (.int .i64 begin)] (.s (.bool (withinF begin 0 60))) [] (by kernel_rfl) (goes_of (by kernel_rfl)) (by kernel_rfl) (by kernel_rfl) (fun _ _ w _ => isBegin_calls _ w) ?_
        refine WPO_end (by kernel_rfl) ⟨rfl, (hfz.fnds [3, 0, 1, 2] (by kernel_rfl) ⟨by kernel_rfl, by kernel_rfl, by kernel_rfl, by kernel_rfl, trivial⟩ (by kernel_rfl)), ?_⟩
        refine H_step 3 (by kernel_rfl) (by kernel_rfl) (fun hfz cx' hx1 hx2 => ?_)
        refine CALLMAPS 76 [.g [.ref 0, .int .i64 b.hear.lo, .int .i64 b.hear.hi, .int .i64 b.br, .int .i64 b.cr, .int .i64 b.sl, .ref 1], .s (.bool (withinF begin 0 60))] (.t [(true, [.ref 0, .int .i64 b.hear.lo, .int .i64 b.hear.hi, .int .i64 b.br, .int .i64 b.cr, .int .i64 b.sl, .ref 1, .ref 5]), (false, [.int .i64 (askT b)])]) 100 encM (CanF b []) 5 (by kernel_rfl) (by kernel_rfl) (by kernel_rfl) (goes_of (by kernel_rfl)) (fun _ => (by kernel_rfl)) (fun _ => (by kernel_rfl)) (fun _ => rfl) (fun m w1 w2 h1 h2 => CanF.stab m w1 w2 h1 h2) (fun m w h1 => CanF.maps m w h1) (fun nV w h => asked_yes (nV 0) (nV 1) b _ w ⟨h.reads (id := 0) (kd := .ro) (e := 65) (by kernel_rfl), h.reads (id := 1) (kd := .ro) (e := 70) (by kernel_rfl)⟩ hq1 hq2) (fun mp21 => ?_)
        refine WPO_end (by kernel_rfl) ⟨rfl, (hfz.fnds [3, 0, 1, 2] (by kernel_rfl) ⟨by kernel_rfl, by kernel_rfl, by kernel_rfl, by kernel_rfl, trivial⟩ (by kernel_rfl)), ?_⟩
        refine H_run tt_ok [4, 5, 6] (f' := 2) (by kernel_rfl) (by kernel_rfl) (by kernel_rfl) ?_
        refine H_step 8 (by kernel_rfl) (by kernel_rfl) (fun hfz cx' hx1 hx2 => ?_)
        refine WPO_all tt_ok (by kernel_rfl) ?_
        refine ⟨rfl, (hfz.fnds [3, 0, 1, 2] (by kernel_rfl) ⟨by kernel_rfl, by kernel_rfl, by kernel_rfl, by kernel_rfl, trivial⟩ (by kernel_rfl)), ?_⟩
        refine H_run tt_ok [9] (f' := 0) (by kernel_rfl) (by kernel_rfl) (by kernel_rfl) ?_
        refine H_done (by kernel_rfl) ?_
        exact ⟨mp21, Le_ren [(6, 4), (5, 6), (4, 5)] ⟨by kernel_rfl, by kernel_rfl, by kernel_rfl, by kernel_rfl, by kernel_rfl, by kernel_rfl, by kernel_rfl, trivial⟩ ⟨by kernel_rfl, rfl, by kernel_rfl, by kernel_rfl, rfl, by kernel_rfl, by kernel_rfl, rfl, by kernel_rfl, trivial⟩ (by kernel_rfl) (by kernel_rfl) (rnm_id (m := 2) (by kernel_rfl)) (by show 2 ≤ 7; decide) (by kernel_rfl) (by kernel_rfl)⟩
    intro mp15
    refine WP_seq (WP_seq (WP_region (WPO_all tt_ok (by kernel_rfl) ?_)))
    refine WP_cond ((askT b) != 0) (by kernel_rfl) (fun hc3 => ?_) (fun hc3 => ?_)
    · have hc3' := hc3; try simp only [Bool.and_eq_true, Bool.or_eq_true, Bool.and_eq_false_iff, Bool.or_eq_false_iff, Bool.not_eq_true', Bool.not_eq_false', decide_eq_true_eq, decide_eq_false_iff_not, beq_iff_eq, beq_eq_false_iff_ne, bne_iff_ne, bne_eq_false_iff_eq, ne_eq] at hc3'
      refine WP_seq (WP_region (WPO_all tt_ok (by kernel_rfl) ?_))
      refine WP_ret ?_
      exact ⟨.t [(false, [.int .i64 0]), (false, [.int .i64 (askT b)])], by kernel_rfl, fun nV w' h => ⟨by rw [show clearA b begin = (0, askT b) from by unfold clearA; simp only [hq, hc3, cond_true, cond_false]]; rfl, h.bel⟩⟩
    have hc3' := hc3; try simp only [Bool.and_eq_true, Bool.or_eq_true, Bool.and_eq_false_iff, Bool.or_eq_false_iff, Bool.not_eq_true', Bool.not_eq_false', decide_eq_true_eq, decide_eq_false_iff_not, beq_iff_eq, beq_eq_false_iff_ne, bne_iff_ne, bne_eq_false_iff_eq, ne_eq] at hc3'
    refine WP_skip ?_
    refine WP_seq (WP_region (WPO_run tt_ok 2 (by kernel_rfl) ?_))
    refine CALL 79 [.g [.ref 0, .int .i64 b.hear.lo, .int .i64 b.hear.hi, .int .i64 b.br, .int .i64 b.cr, .int .i64 b.sl, .ref 1, .ref 4], .s (.int .i64 begin)] (.s (.int .i64 (clearF b ([]) begin))) [] (by kernel_rfl) (goes_of (by kernel_rfl)) (by kernel_rfl) (by kernel_rfl) (fun _ nV w h => clearF_calls (nV 0) (nV 1) (nV 4) b ([]) mp15 begin w ⟨h.reads (id := 0) (kd := .ro) (e := 65) (by kernel_rfl), h.reads (id := 1) (kd := .ro) (e := 70) (by kernel_rfl)⟩ (HSat_toK 4 5 .own h (by kernel_rfl) (by kernel_rfl)) (h.ents (2, .pf AsksAt (· = 0)) (fnd_mem (by kernel_rfl))).1 (by first | assumption | omega | (constructor <;> omega) | (refine ⟨?_, ?_, ?_⟩ <;> omega)) (by first | assumption | omega | (constructor <;> omega) | (refine ⟨?_, ?_, ?_⟩ <;> omega))) ?_
    refine WPO_all tt_ok (by kernel_rfl) ?_
    refine WP_ret ?_
    exact ⟨.t [(false, [.int .i64 (clearF b ([]) begin)]), (false, [.int .i64 0])], by kernel_rfl, fun nV w' h => ⟨by rw [show clearA b begin = (clearF b ([]) begin, 0) from by unfold clearA; simp only [hq, hc3, cond_true, cond_false]]; rfl, h.bel⟩⟩
def mayA_c2 (b : Book) (begin : Int) (k1 : Nat) (k2 : Nat) : Unit → Bool := fun _ => decide ((k2 : Int) < (b.ships.length : Int))
def mayA_b2 (b : Book) (begin : Int) (k1 : Nat) (k2 : Nat) : Unit → Bd Unit (Int × Int) := fun _ => (bif someF b ([]) (k2 : Int).toNat (IntKind.i64.wrap (begin + (k1 : Int))).toNat (1 : Int).toNat then .ret (IntKind.i64.wrap (begin + (k1 : Int)), 0) else .go ())
def mayA_c1 (b : Book) (begin : Int) (k1 : Nat) : Unit → Bool := fun _ => decide ((k1 : Int) < (b.cr + b.sl))
def mayA_b1 (b : Book) (begin : Int) (k1 : Nat) : Unit → Bd Unit (Int × Int) := fun _ => (match loopR (mayA_c2 b begin k1) (mayA_b2 b begin k1) b.ships.length 0 () with | .brk () => .go () | .ret r => .ret r)
def mayA (b : Book) (begin : Int) : Int × Int :=
  (bif (checkW b == 0) && (withinF begin 0 60) then (bif (askT b) != 0 then (0, askT b) else (match loopR (mayA_c1 b begin) (mayA_b1 b begin) ((b.cr + b.sl) : Int).toNat 0 () with | .brk () => (0, 4) | .ret r => r)) else (bif (askN b) != 0 then (0, askN b) else (0, askN b)))
theorem mayA_calls (g0 g1 : Value) (b : Book) (begin : Int) (w : World) (r0 : Reads w g0 5 b.ships encShip zShip) (r1 : Reads w g1 4 b.sights encSight zSight) (ha : AsksAt w) : Calls Tryd.prog 29 #[.agg #[g0, iv b.hear.lo, iv b.hear.hi, iv b.br, iv b.cr, iv b.sl, g1], iv begin] w fun e w' => e = .returned (.tuple #[iv (mayA b begin).1, iv (mayA b begin).2]) ∧ Below w.heap.size w w' := by
  cases hq : ((checkW b == 0) && (withinF begin 0 60))
  · refine calls_of_WP (cx := cx0 w (vn [g0, g1]) 2) (n := vn [g0, g1]) (vs := [.g [.ref 0, .int .i64 b.hear.lo, .int .i64 b.hear.hi, .int .i64 b.br, .int .i64 b.cr, .int .i64 b.sl, .ref 1], .s (.int .i64 begin)]) (hp := [(0, .sl .ro 65 5 b.ships encShip zShip), (1, .sl .ro 70 4 b.sights encSight zSight), (2, .pf AsksAt (· = 0))]) (nx := 3) tt_ok Tryd.func29 rfl rfl rfl (by kernel_rfl) (HSat_args (vn_one (by simp [r0.one, r1.one])) (by decide) ⟨⟨⟨fun _ => rfl, by decide, r0⟩, (Nat.le_of_ble_eq_true rfl)⟩, ⟨⟨fun _ => rfl, by decide, r1⟩, (Nat.le_of_ble_eq_true rfl)⟩, ⟨⟨ha, fun w1 w2 h1 hw => (hw 0 rfl).trans h1, fun g hg => by cases hg; exact (Array.getElem?_eq_some_iff.1 ha).1⟩, (Nat.le_of_ble_eq_true rfl)⟩, trivial⟩) (vsOk (by kernel_rfl)) ?_
    have hl0 := Reads.len r0
    have hl1 := Reads.len r1
    refine WP_seq (WP_region (WPO_all tt_ok (by kernel_rfl) ?_))
    refine WP_seq (WP_toX (σ := Unit) (fun _ => ⟨47, [(7, [], .s (.int .i64 (askN b))), (6, [], .s (.p 4 0)), (2, [], .s (.p 3 0)), (1, [], .s (.int .i64 begin))], [(4, .box 94 [.v (.slice none 0 0), .int .i64 0, .int .i64 0, .int .i64 0, .int .i64 0, .int .i64 0, .v (.slice none 0 0), .v (.slice none 0 0)]), (3, .box 27 [.ref 0, .int .i64 b.hear.lo, .int .i64 b.hear.hi, .int .i64 b.br, .int .i64 b.cr, .int .i64 b.sl, .ref 1]), (0, .sl .ro 65 5 b.ships encShip zShip), (1, .sl .ro 70 4 b.sights encSight zSight), (2, .pf AsksAt (· = 0))], 5, []⟩) ?_ ?_)
    · refine WP_drawH [] (by kernel_rfl) (by kernel_rfl) ?_
      refine H_run tt_ok [0, 1] (f' := 8) (by kernel_rfl) (by kernel_rfl) (by kernel_rfl) ?_
      refine H_two 2 7 (by kernel_rfl) (by kernel_rfl) (by kernel_rfl) (fun hfz cx' hx1 hx2 => ?_) (fun hfz cx' hx1 hx2 => ?_)
      · refine CALL 78 [.s (.int .i64 begin)] (.s (.bool (withinF begin 0 60))) [] (by kernel_rfl) (goes_of (by kernel_rfl)) (by kernel_rfl) (by kernel_rfl) (fun _ _ w _ => isBegin_calls _ w) ?_
        refine WPO_end (by kernel_rfl) ⟨rfl, (hfz.fnds [3, 0, 1, 2] (by kernel_rfl) ⟨by kernel_rfl, by kernel_rfl, by kernel_rfl, by kernel_rfl, trivial⟩ (by kernel_rfl)), ?_⟩
        refine H_two 3 7 (by kernel_rfl) (by kernel_rfl) (by kernel_rfl) (fun hfz cx' hx1 hx2 => ?_) (fun hfz cx' hx1 hx2 => ?_)
        · refine CALL 76 [.g [.ref 0, .int .i64 b.hear.lo, .int .i64 b.hear.hi, .int .i64 b.br, .int .i64 b.cr, .int .i64 b.sl, .ref 1], .s (.bool (withinF begin 0 60))] (.t [(true, [.v (.slice none 0 0), .int .i64 0, .int .i64 0, .int .i64 0, .int .i64 0, .int .i64 0, .v (.slice none 0 0), .v (.slice none 0 0)]), (false, [.int .i64 (askN b)])]) [] (by kernel_rfl) (goes_of (by kernel_rfl)) (by kernel_rfl) (by kernel_rfl) (fun _ nV w h => asked_no (nV 0) (nV 1) b _ w ⟨h.reads (id := 0) (kd := .ro) (e := 65) (by kernel_rfl), h.reads (id := 1) (kd := .ro) (e := 70) (by kernel_rfl)⟩ hq) ?_
          refine WPO_end (by kernel_rfl) ⟨rfl, (hfz.fnds [3, 0, 1, 2] (by kernel_rfl) ⟨by kernel_rfl, by kernel_rfl, by kernel_rfl, by kernel_rfl, trivial⟩ (by kernel_rfl)), ?_⟩
          refine H_run tt_ok [4, 5, 6] (f' := 3) (by kernel_rfl) (by kernel_rfl) (by kernel_rfl) ?_
          refine H_step 7 (by kernel_rfl) (by kernel_rfl) (fun hfz cx' hx1 hx2 => ?_)
          refine WPO_all tt_ok (by kernel_rfl) ?_
          refine ⟨rfl, (hfz.fnds [3, 0, 1, 2] (by kernel_rfl) ⟨by kernel_rfl, by kernel_rfl, by kernel_rfl, by kernel_rfl, trivial⟩ (by kernel_rfl)), ?_⟩
          refine H_step 8 (by kernel_rfl) (by kernel_rfl) (fun hfz cx' hx1 hx2 => ?_)
          refine WPO_all tt_ok (by kernel_rfl) ?_
          refine ⟨rfl, (hfz.fnds [3, 0, 1, 2] (by kernel_rfl) ⟨by kernel_rfl, by kernel_rfl, by kernel_rfl, by kernel_rfl, trivial⟩ (by kernel_rfl)), ?_⟩
          refine H_run tt_ok [9] (f' := 0) (by kernel_rfl) (by kernel_rfl) (by kernel_rfl) ?_
          refine H_done (by kernel_rfl) ?_
          exact ⟨(), Le_sel (ts := [7, 6, 2, 1]) (ids := [4, 3, 0, 1, 2]) (nx := 5) (by kernel_rfl)⟩
        · refine WPO_all tt_ok (by kernel_rfl) ?_
          refine ⟨rfl, (hfz.fnds [3, 0, 1, 2] (by kernel_rfl) ⟨by kernel_rfl, by kernel_rfl, by kernel_rfl, by kernel_rfl, trivial⟩ (by kernel_rfl)), ?_⟩
          refine H_step 3 (by kernel_rfl) (by kernel_rfl) (fun hfz cx' hx1 hx2 => ?_)
          refine CALL 76 [.g [.ref 0, .int .i64 b.hear.lo, .int .i64 b.hear.hi, .int .i64 b.br, .int .i64 b.cr, .int .i64 b.sl, .ref 1], .s (.bool (withinF begin 0 60))] (.t [(true, [.v (.slice none 0 0), .int .i64 0, .int .i64 0, .int .i64 0, .int .i64 0, .int .i64 0, .v (.slice none 0 0), .v (.slice none 0 0)]), (false, [.int .i64 (askN b)])]) [] (by kernel_rfl) (goes_of (by kernel_rfl)) (by kernel_rfl) (by kernel_rfl) (fun _ nV w h => asked_no (nV 0) (nV 1) b _ w ⟨h.reads (id := 0) (kd := .ro) (e := 65) (by kernel_rfl), h.reads (id := 1) (kd := .ro) (e := 70) (by kernel_rfl)⟩ hq) ?_
          refine WPO_end (by kernel_rfl) ⟨rfl, (hfz.fnds [3, 0, 1, 2] (by kernel_rfl) ⟨by kernel_rfl, by kernel_rfl, by kernel_rfl, by kernel_rfl, trivial⟩ (by kernel_rfl)), ?_⟩
          refine H_run tt_ok [4, 5, 6] (f' := 2) (by kernel_rfl) (by kernel_rfl) (by kernel_rfl) ?_
          refine H_step 8 (by kernel_rfl) (by kernel_rfl) (fun hfz cx' hx1 hx2 => ?_)
          refine WPO_all tt_ok (by kernel_rfl) ?_
          refine ⟨rfl, (hfz.fnds [3, 0, 1, 2] (by kernel_rfl) ⟨by kernel_rfl, by kernel_rfl, by kernel_rfl, by kernel_rfl, trivial⟩ (by kernel_rfl)), ?_⟩
          refine H_run tt_ok [9] (f' := 0) (by kernel_rfl) (by kernel_rfl) (by kernel_rfl) ?_
          refine H_done (by kernel_rfl) ?_
          exact ⟨(), Le_sel (ts := [7, 6, 2, 1]) (ids := [4, 3, 0, 1, 2]) (nx := 5) (by kernel_rfl)⟩
      · refine WPO_all tt_ok (by kernel_rfl) ?_
        refine ⟨rfl, (hfz.fnds [3, 0, 1, 2] (by kernel_rfl) ⟨by kernel_rfl, by kernel_rfl, by kernel_rfl, by kernel_rfl, trivial⟩ (by kernel_rfl)), ?_⟩
        refine H_step 2 (by kernel_rfl) (by kernel_rfl) (fun hfz cx' hx1 hx2 => ?_)
        refine CALL 78 [.s (.int .i64 begin)] (.s (.bool (withinF begin 0 60))) [] (by kernel_rfl) (goes_of (by kernel_rfl)) (by kernel_rfl) (by kernel_rfl) (fun _ _ w _ => isBegin_calls _ w) ?_
        refine WPO_end (by kernel_rfl) ⟨rfl, (hfz.fnds [3, 0, 1, 2] (by kernel_rfl) ⟨by kernel_rfl, by kernel_rfl, by kernel_rfl, by kernel_rfl, trivial⟩ (by kernel_rfl)), ?_⟩
        refine H_step 3 (by kernel_rfl) (by kernel_rfl) (fun hfz cx' hx1 hx2 => ?_)
        refine CALL 76 [.g [.ref 0, .int .i64 b.hear.lo, .int .i64 b.hear.hi, .int .i64 b.br, .int .i64 b.cr, .int .i64 b.sl, .ref 1], .s (.bool (withinF begin 0 60))] (.t [(true, [.v (.slice none 0 0), .int .i64 0, .int .i64 0, .int .i64 0, .int .i64 0, .int .i64 0, .v (.slice none 0 0), .v (.slice none 0 0)]), (false, [.int .i64 (askN b)])]) [] (by kernel_rfl) (goes_of (by kernel_rfl)) (by kernel_rfl) (by kernel_rfl) (fun _ nV w h => asked_no (nV 0) (nV 1) b _ w ⟨h.reads (id := 0) (kd := .ro) (e := 65) (by kernel_rfl), h.reads (id := 1) (kd := .ro) (e := 70) (by kernel_rfl)⟩ hq) ?_
        refine WPO_end (by kernel_rfl) ⟨rfl, (hfz.fnds [3, 0, 1, 2] (by kernel_rfl) ⟨by kernel_rfl, by kernel_rfl, by kernel_rfl, by kernel_rfl, trivial⟩ (by kernel_rfl)), ?_⟩
        refine H_run tt_ok [4, 5, 6] (f' := 2) (by kernel_rfl) (by kernel_rfl) (by kernel_rfl) ?_
        refine H_step 8 (by kernel_rfl) (by kernel_rfl) (fun hfz cx' hx1 hx2 => ?_)
        refine WPO_all tt_ok (by kernel_rfl) ?_
        refine ⟨rfl, (hfz.fnds [3, 0, 1, 2] (by kernel_rfl) ⟨by kernel_rfl, by kernel_rfl, by kernel_rfl, by kernel_rfl, trivial⟩ (by kernel_rfl)), ?_⟩
        refine H_run tt_ok [9] (f' := 0) (by kernel_rfl) (by kernel_rfl) (by kernel_rfl) ?_
        refine H_done (by kernel_rfl) ?_
        exact ⟨(), Le_sel (ts := [7, 6, 2, 1]) (ids := [4, 3, 0, 1, 2]) (nx := 5) (by kernel_rfl)⟩
    intro _
    refine WP_seq (WP_seq (WP_region (WPO_all tt_ok (by kernel_rfl) ?_)))
    refine WP_cond ((askN b) != 0) (by kernel_rfl) (fun hc1 => ?_) (fun h => by rw [askN_ne b] at h; cases h)
    refine WP_seq (WP_region (WPO_all tt_ok (by kernel_rfl) ?_))
    refine WP_ret ?_
    exact ⟨.t [(false, [.int .i64 0]), (false, [.int .i64 (askN b)])], by kernel_rfl, fun nV w' h => ⟨by rw [show mayA b begin = (0, askN b) from by unfold mayA; simp only [hq, hc1, cond_true, cond_false]]; rfl, h.bel⟩⟩
  · obtain ⟨hq1, hq2⟩ := ask_two hq
    have hv : Valid b := check_valid.1 hq1
    have hbs := hv.nships
    have hbc := hv.cr
    have hbl := hv.sl
    have hw1 := within_one hq2
    refine calls_of_WP (cx := cx0 w (vn [g0, g1]) 2) (n := vn [g0, g1]) (vs := [.g [.ref 0, .int .i64 b.hear.lo, .int .i64 b.hear.hi, .int .i64 b.br, .int .i64 b.cr, .int .i64 b.sl, .ref 1], .s (.int .i64 begin)]) (hp := [(0, .sl .ro 65 5 b.ships encShip zShip), (1, .sl .ro 70 4 b.sights encSight zSight), (2, .pf AsksAt (· = 0))]) (nx := 3) tt_ok Tryd.func29 rfl rfl rfl (by kernel_rfl) (HSat_args (vn_one (by simp [r0.one, r1.one])) (by decide) ⟨⟨⟨fun _ => rfl, by decide, r0⟩, (Nat.le_of_ble_eq_true rfl)⟩, ⟨⟨fun _ => rfl, by decide, r1⟩, (Nat.le_of_ble_eq_true rfl)⟩, ⟨⟨ha, fun w1 w2 h1 hw => (hw 0 rfl).trans h1, fun g hg => by cases hg; exact (Array.getElem?_eq_some_iff.1 ha).1⟩, (Nat.le_of_ble_eq_true rfl)⟩, trivial⟩) (vsOk (by kernel_rfl)) ?_
    have hl0 := Reads.len r0
    have hl1 := Reads.len r1
    refine WP_seq (WP_region (WPO_all tt_ok (by kernel_rfl) ?_))
    refine WP_seq (WP_toX (σ := List Nat) (fun mp24 => ⟨47, [(7, [], .s (.int .i64 (askT b))), (6, [], .s (.p 6 0)), (2, [], .s (.p 3 0)), (1, [], .s (.int .i64 begin))], [(6, .box 94 [.ref 0, .int .i64 b.hear.lo, .int .i64 b.hear.hi, .int .i64 b.br, .int .i64 b.cr, .int .i64 b.sl, .ref 1, .ref 4]), (5, pfK b [] mp24), (4, .sl .own 100 1 mp24 encM 0), (3, .box 27 [.ref 0, .int .i64 b.hear.lo, .int .i64 b.hear.hi, .int .i64 b.br, .int .i64 b.cr, .int .i64 b.sl, .ref 1]), (0, .sl .ro 65 5 b.ships encShip zShip), (1, .sl .ro 70 4 b.sights encSight zSight), (2, .pf AsksAt (· = 0))], 7, []⟩) ?_ ?_)
    · refine WP_drawH [] (by kernel_rfl) (by kernel_rfl) ?_
      refine H_run tt_ok [0, 1] (f' := 8) (by kernel_rfl) (by kernel_rfl) (by kernel_rfl) ?_
      refine H_two 2 7 (by kernel_rfl) (by kernel_rfl) (by kernel_rfl) (fun hfz cx' hx1 hx2 => ?_) (fun hfz cx' hx1 hx2 => ?_)
      · refine CALL 78 [.s (.int .i64 begin)] (.s (.bool (withinF begin 0 60))) [] (by kernel_rfl) (goes_of (by kernel_rfl)) (by kernel_rfl) (by kernel_rfl) (fun _ _ w _ => isBegin_calls _ w) ?_
        refine WPO_end (by kernel_rfl) ⟨rfl, (hfz.fnds [3, 0, 1, 2] (by kernel_rfl) ⟨by kernel_rfl, by kernel_rfl, by kernel_rfl, by kernel_rfl, trivial⟩ (by kernel_rfl)), ?_⟩
        refine H_two 3 7 (by kernel_rfl) (by kernel_rfl) (by kernel_rfl) (fun hfz cx' hx1 hx2 => ?_) (fun hfz cx' hx1 hx2 => ?_)
        · refine CALLMAPS 76 [.g [.ref 0, .int .i64 b.hear.lo, .int .i64 b.hear.hi, .int .i64 b.br, .int .i64 b.cr, .int .i64 b.sl, .ref 1], .s (.bool (withinF begin 0 60))] (.t [(true, [.ref 0, .int .i64 b.hear.lo, .int .i64 b.hear.hi, .int .i64 b.br, .int .i64 b.cr, .int .i64 b.sl, .ref 1, .ref 4]), (false, [.int .i64 (askT b)])]) 100 encM (CanF b []) 4 (by kernel_rfl) (by kernel_rfl) (by kernel_rfl) (goes_of (by kernel_rfl)) (fun _ => (by kernel_rfl)) (fun _ => (by kernel_rfl)) (fun _ => rfl) (fun m w1 w2 h1 h2 => CanF.stab m w1 w2 h1 h2) (fun m w h1 => CanF.maps m w h1) (fun nV w h => asked_yes (nV 0) (nV 1) b _ w ⟨h.reads (id := 0) (kd := .ro) (e := 65) (by kernel_rfl), h.reads (id := 1) (kd := .ro) (e := 70) (by kernel_rfl)⟩ hq1 hq2) (fun mp28 => ?_)
          refine WPO_end (by kernel_rfl) ⟨rfl, (hfz.fnds [3, 0, 1, 2] (by kernel_rfl) ⟨by kernel_rfl, by kernel_rfl, by kernel_rfl, by kernel_rfl, trivial⟩ (by kernel_rfl)), ?_⟩
          refine H_run tt_ok [4, 5, 6] (f' := 3) (by kernel_rfl) (by kernel_rfl) (by kernel_rfl) ?_
          refine H_step 7 (by kernel_rfl) (by kernel_rfl) (fun hfz cx' hx1 hx2 => ?_)
          refine WPO_all tt_ok (by kernel_rfl) ?_
          refine ⟨rfl, (hfz.fnds [3, 0, 1, 2] (by kernel_rfl) ⟨by kernel_rfl, by kernel_rfl, by kernel_rfl, by kernel_rfl, trivial⟩ (by kernel_rfl)), ?_⟩
          refine H_step 8 (by kernel_rfl) (by kernel_rfl) (fun hfz cx' hx1 hx2 => ?_)
          refine WPO_all tt_ok (by kernel_rfl) ?_
          refine ⟨rfl, (hfz.fnds [3, 0, 1, 2] (by kernel_rfl) ⟨by kernel_rfl, by kernel_rfl, by kernel_rfl, by kernel_rfl, trivial⟩ (by kernel_rfl)), ?_⟩
          refine H_run tt_ok [9] (f' := 0) (by kernel_rfl) (by kernel_rfl) (by kernel_rfl) ?_
          refine H_done (by kernel_rfl) ?_
          exact ⟨mp28, Le_sel (ts := [7, 6, 2, 1]) (ids := [6, 5, 4, 3, 0, 1, 2]) (nx := 7) (by kernel_rfl)⟩
        · refine WPO_all tt_ok (by kernel_rfl) ?_
          refine ⟨rfl, (hfz.fnds [3, 0, 1, 2] (by kernel_rfl) ⟨by kernel_rfl, by kernel_rfl, by kernel_rfl, by kernel_rfl, trivial⟩ (by kernel_rfl)), ?_⟩
          refine H_step 3 (by kernel_rfl) (by kernel_rfl) (fun hfz cx' hx1 hx2 => ?_)
          refine CALLMAPS 76 [.g [.ref 0, .int .i64 b.hear.lo, .int .i64 b.hear.hi, .int .i64 b.br, .int .i64 b.cr, .int .i64 b.sl, .ref 1], .s (.bool (withinF begin 0 60))] (.t [(true, [.ref 0, .int .i64 b.hear.lo, .int .i64 b.hear.hi, .int .i64 b.br, .int .i64 b.cr, .int .i64 b.sl, .ref 1, .ref 5]), (false, [.int .i64 (askT b)])]) 100 encM (CanF b []) 5 (by kernel_rfl) (by kernel_rfl) (by kernel_rfl) (goes_of (by kernel_rfl)) (fun _ => (by kernel_rfl)) (fun _ => (by kernel_rfl)) (fun _ => rfl) (fun m w1 w2 h1 h2 => CanF.stab m w1 w2 h1 h2) (fun m w h1 => CanF.maps m w h1) (fun nV w h => asked_yes (nV 0) (nV 1) b _ w ⟨h.reads (id := 0) (kd := .ro) (e := 65) (by kernel_rfl), h.reads (id := 1) (kd := .ro) (e := 70) (by kernel_rfl)⟩ hq1 hq2) (fun mp29 => ?_)
          refine WPO_end (by kernel_rfl) ⟨rfl, (hfz.fnds [3, 0, 1, 2] (by kernel_rfl) ⟨by kernel_rfl, by kernel_rfl, by kernel_rfl, by kernel_rfl, trivial⟩ (by kernel_rfl)), ?_⟩
          refine H_run tt_ok [4, 5, 6] (f' := 2) (by kernel_rfl) (by kernel_rfl) (by kernel_rfl) ?_
          refine H_step 8 (by kernel_rfl) (by kernel_rfl) (fun hfz cx' hx1 hx2 => ?_)
          refine WPO_all tt_ok (by kernel_rfl) ?_
          refine ⟨rfl, (hfz.fnds [3, 0, 1, 2] (by kernel_rfl) ⟨by kernel_rfl, by kernel_rfl, by kernel_rfl, by kernel_rfl, trivial⟩ (by kernel_rfl)), ?_⟩
          refine H_run tt_ok [9] (f' := 0) (by kernel_rfl) (by kernel_rfl) (by kernel_rfl) ?_
          refine H_done (by kernel_rfl) ?_
          exact ⟨mp29, Le_ren [(6, 4), (5, 6), (4, 5)] ⟨by kernel_rfl, by kernel_rfl, by kernel_rfl, by kernel_rfl, by kernel_rfl, by kernel_rfl, by kernel_rfl, trivial⟩ ⟨by kernel_rfl, rfl, by kernel_rfl, by kernel_rfl, rfl, by kernel_rfl, by kernel_rfl, rfl, by kernel_rfl, by kernel_rfl, rfl, by kernel_rfl, trivial⟩ (by kernel_rfl) (by kernel_rfl) (rnm_id (m := 2) (by kernel_rfl)) (by show 2 ≤ 7; decide) (by kernel_rfl) (by kernel_rfl)⟩
      · refine WPO_all tt_ok (by kernel_rfl) ?_
        refine ⟨rfl, (hfz.fnds [3, 0, 1, 2] (by kernel_rfl) ⟨by kernel_rfl, by kernel_rfl, by kernel_rfl, by kernel_rfl, trivial⟩ (by kernel_rfl)), ?_⟩
        refine H_step 2 (by kernel_rfl) (by kernel_rfl) (fun hfz cx' hx1 hx2 => ?_)
        refine CALL 78 [.s (.int .i64 begin)] (.s (.bool (withinF begin 0 60))) [] (by kernel_rfl) (goes_of (by kernel_rfl)) (by kernel_rfl) (by kernel_rfl) (fun _ _ w _ => isBegin_calls _ w) ?_
        refine WPO_end (by kernel_rfl) ⟨rfl, (hfz.fnds [3, 0, 1, 2] (by kernel_rfl) ⟨by kernel_rfl, by kernel_rfl, by kernel_rfl, by kernel_rfl, trivial⟩ (by kernel_rfl)), ?_⟩
        refine H_step 3 (by kernel_rfl) (by kernel_rfl) (fun hfz cx' hx1 hx2 => ?_)
        refine CALLMAPS 76 [.g [.ref 0, .int .i64 b.hear.lo, .int .i64 b.hear.hi, .int .i64 b.br, .int .i64 b.cr, .int .i64 b.sl, .ref 1], .s (.bool (withinF begin 0 60))] (.t [(true, [.ref 0, .int .i64 b.hear.lo, .int .i64 b.hear.hi, .int .i64 b.br, .int .i64 b.cr, .int .i64 b.sl, .ref 1, .ref 5]), (false, [.int .i64 (askT b)])]) 100 encM (CanF b []) 5 (by kernel_rfl) (by kernel_rfl) (by kernel_rfl) (goes_of (by kernel_rfl)) (fun _ => (by kernel_rfl)) (fun _ => (by kernel_rfl)) (fun _ => rfl) (fun m w1 w2 h1 h2 => CanF.stab m w1 w2 h1 h2) (fun m w h1 => CanF.maps m w h1) (fun nV w h => asked_yes (nV 0) (nV 1) b _ w ⟨h.reads (id := 0) (kd := .ro) (e := 65) (by kernel_rfl), h.reads (id := 1) (kd := .ro) (e := 70) (by kernel_rfl)⟩ hq1 hq2) (fun mp30 => ?_)
        refine WPO_end (by kernel_rfl) ⟨rfl, (hfz.fnds [3, 0, 1, 2] (by kernel_rfl) ⟨by kernel_rfl, by kernel_rfl, by kernel_rfl, by kernel_rfl, trivial⟩ (by kernel_rfl)), ?_⟩
        refine H_run tt_ok [4, 5, 6] (f' := 2) (by kernel_rfl) (by kernel_rfl) (by kernel_rfl) ?_
        refine H_step 8 (by kernel_rfl) (by kernel_rfl) (fun hfz cx' hx1 hx2 => ?_)
        refine WPO_all tt_ok (by kernel_rfl) ?_
        refine ⟨rfl, (hfz.fnds [3, 0, 1, 2] (by kernel_rfl) ⟨by kernel_rfl, by kernel_rfl, by kernel_rfl, by kernel_rfl, trivial⟩ (by kernel_rfl)), ?_⟩
        refine H_run tt_ok [9] (f' := 0) (by kernel_rfl) (by kernel_rfl) (by kernel_rfl) ?_
        refine H_done (by kernel_rfl) ?_
        exact ⟨mp30, Le_ren [(6, 4), (5, 6), (4, 5)] ⟨by kernel_rfl, by kernel_rfl, by kernel_rfl, by kernel_rfl, by kernel_rfl, by kernel_rfl, by kernel_rfl, trivial⟩ ⟨by kernel_rfl, rfl, by kernel_rfl, by kernel_rfl, rfl, by kernel_rfl, by kernel_rfl, rfl, by kernel_rfl, by kernel_rfl, rfl, by kernel_rfl, trivial⟩ (by kernel_rfl) (by kernel_rfl) (rnm_id (m := 2) (by kernel_rfl)) (by show 2 ≤ 7; decide) (by kernel_rfl) (by kernel_rfl)⟩
    intro mp24
    refine WP_seq (WP_seq (WP_region (WPO_all tt_ok (by kernel_rfl) ?_)))
    refine WP_cond ((askT b) != 0) (by kernel_rfl) (fun hc3 => ?_) (fun hc3 => ?_)
    · have hc3' := hc3; try simp only [Bool.and_eq_true, Bool.or_eq_true, Bool.and_eq_false_iff, Bool.or_eq_false_iff, Bool.not_eq_true', Bool.not_eq_false', decide_eq_true_eq, decide_eq_false_iff_not, beq_iff_eq, beq_eq_false_iff_ne, bne_iff_ne, bne_eq_false_iff_eq, ne_eq] at hc3'
      refine WP_seq (WP_region (WPO_all tt_ok (by kernel_rfl) ?_))
      refine WP_ret ?_
      exact ⟨.t [(false, [.int .i64 0]), (false, [.int .i64 (askT b)])], by kernel_rfl, fun nV w' h => ⟨by rw [show mayA b begin = (0, askT b) from by unfold mayA; simp only [hq, hc3, cond_true, cond_false]]; rfl, h.bel⟩⟩
    have hc3' := hc3; try simp only [Bool.and_eq_true, Bool.or_eq_true, Bool.and_eq_false_iff, Bool.or_eq_false_iff, Bool.not_eq_true', Bool.not_eq_false', decide_eq_true_eq, decide_eq_false_iff_not, beq_iff_eq, beq_eq_false_iff_ne, bne_iff_ne, bne_eq_false_iff_eq, ne_eq] at hc3'
    refine WP_skip ?_
    refine WP_seq (WP_region (WPO_run tt_ok 2 (by kernel_rfl) ?_))
    refine CALL 80 [.g [.ref 0, .int .i64 b.hear.lo, .int .i64 b.hear.hi, .int .i64 b.br, .int .i64 b.cr, .int .i64 b.sl, .ref 1, .ref 4], .s (.int .i64 begin)] (.g [.int .i64 begin, .int .i64 (b.cr + b.sl)]) [] (by kernel_rfl) (goes_of (by kernel_rfl)) (by kernel_rfl) (by kernel_rfl) (fun _ nV w h => taut_calls (nV 0) (nV 1) (nV 4) b ([]) mp24 begin w ⟨h.reads (id := 0) (kd := .ro) (e := 65) (by kernel_rfl), h.reads (id := 1) (kd := .ro) (e := 70) (by kernel_rfl)⟩ (HSat_toK 4 5 .own h (by kernel_rfl) (by kernel_rfl)) hv) ?_
    refine WPO_all tt_ok (by kernel_rfl) ?_
    refine WP_seq (WP_seq (WP_region (WPO_all tt_ok (by kernel_rfl) ?_)))
    refine WP_loopA (ρ := Int × Int) (mayA_c1 b begin) (mayA_b1 b begin) ((b.cr + b.sl) : Int).toNat () (fun k : Nat => (k : Int)) (fun (ci : Int) (zz : Unit) => ⟨47, [(26, [], .s (.int .i64 ci)), (25, [], .s (.int .i64 (b.cr + b.sl))), (6, [], .s (.p 6 0)), (2, [], .s (.p 3 0)), (1, [], .s (.int .i64 begin))], [(7, .box 107 [.int .i64 begin, .int .i64 (b.cr + b.sl)]), (6, .box 94 [.ref 0, .int .i64 b.hear.lo, .int .i64 b.hear.hi, .int .i64 b.br, .int .i64 b.cr, .int .i64 b.sl, .ref 1, .ref 4]), (5, pfK b [] mp24), (4, .sl .own 100 1 mp24 encM 0), (3, .box 27 [.ref 0, .int .i64 b.hear.lo, .int .i64 b.hear.hi, .int .i64 b.br, .int .i64 b.cr, .int .i64 b.sl, .ref 1]), (0, .sl .ro 65 5 b.ships encShip zShip), (1, .sl .ro 70 4 b.sights encSight zSight), (2, .pf AsksAt (· = 0))], 8, []⟩) (fun zz : Unit => ⟨47, [], [(7, .box 107 [.int .i64 begin, .int .i64 (b.cr + b.sl)]), (6, .box 94 [.ref 0, .int .i64 b.hear.lo, .int .i64 b.hear.hi, .int .i64 b.br, .int .i64 b.cr, .int .i64 b.sl, .ref 1, .ref 4]), (5, pfK b [] mp24), (4, .sl .own 100 1 mp24 encM 0), (3, .box 27 [.ref 0, .int .i64 b.hear.lo, .int .i64 b.hear.hi, .int .i64 b.br, .int .i64 b.cr, .int .i64 b.sl, .ref 1]), (0, .sl .ro 65 5 b.ships encShip zShip), (1, .sl .ro 70 4 b.sights encSight zSight), (2, .pf AsksAt (· = 0))], 8, []⟩) (fun k zz => True) trivial ⟨0, rfl, Le_sel (ts := [26, 25, 6, 2, 1]) (ids := [7, 6, 5, 4, 3, 0, 1, 2]) (nx := 8) (by kernel_rfl)⟩ ?_ ?_
    · intro k1 zz hn1 hp1 hi1 Q1 hq1 ho1
      refine WP_seq (WP_region (WPO_all tt_ok (by kernel_rfl) ?_))
      refine WP_seq (WP_cond (decide ((k1 : Int) < (b.cr + b.sl))) (by kernel_rfl) (fun hc4 => ?_) (fun hc4 => ?_))
      rotate_left
      · refine WP_exit ?_
        show Q1 (.exit 0) _
        exact LA_exit hq1 () (loopR_end hi1 hc4) ⟨k1, hn1, hp1⟩ (Le_sel (ts := []) (ids := [7, 6, 5, 4, 3, 0, 1, 2]) (nx := 8) (by kernel_rfl))
      have hc4' := of_decide_eq_true hc4
      have hk1 : k1 < ((b.cr + b.sl) : Int).toNat := by omega
      refine WP_skip ?_
      refine WP_seq (WP_block ?_)
      refine WP_seq (WP_region (WPO_all tt_ok (by kernel_rfl) ?_))
      refine WP_seq (WP_region (WPO_all tt_ok (by kernel_rfl) ?_))
      refine WP_loopA (ρ := Int × Int) (mayA_c2 b begin k1) (mayA_b2 b begin k1) b.ships.length () (fun k : Nat => (k : Int)) (fun (ci : Int) (zz : Unit) => ⟨47, [(32, [], .s (.int .i64 ci)), (31, [], .s (.int .i64 (b.ships.length : Int))), (9, [], .s (.int .i64 (k1 : Int))), (26, [], .s (.int .i64 (k1 : Int))), (25, [], .s (.int .i64 (b.cr + b.sl))), (6, [], .s (.p 6 0)), (2, [], .s (.p 3 0)), (1, [], .s (.int .i64 begin))], [(7, .box 107 [.int .i64 begin, .int .i64 (b.cr + b.sl)]), (6, .box 94 [.ref 0, .int .i64 b.hear.lo, .int .i64 b.hear.hi, .int .i64 b.br, .int .i64 b.cr, .int .i64 b.sl, .ref 1, .ref 4]), (5, pfK b [] mp24), (4, .sl .own 100 1 mp24 encM 0), (3, .box 27 [.ref 0, .int .i64 b.hear.lo, .int .i64 b.hear.hi, .int .i64 b.br, .int .i64 b.cr, .int .i64 b.sl, .ref 1]), (0, .sl .ro 65 5 b.ships encShip zShip), (1, .sl .ro 70 4 b.sights encSight zSight), (2, .pf AsksAt (· = 0))], 8, []⟩) (fun zz : Unit => ⟨47, [(26, [], .s (.int .i64 (k1 : Int))), (25, [], .s (.int .i64 (b.cr + b.sl))), (6, [], .s (.p 6 0)), (2, [], .s (.p 3 0)), (1, [], .s (.int .i64 begin))], [(7, .box 107 [.int .i64 begin, .int .i64 (b.cr + b.sl)]), (6, .box 94 [.ref 0, .int .i64 b.hear.lo, .int .i64 b.hear.hi, .int .i64 b.br, .int .i64 b.cr, .int .i64 b.sl, .ref 1, .ref 4]), (5, pfK b [] mp24), (4, .sl .own 100 1 mp24 encM 0), (3, .box 27 [.ref 0, .int .i64 b.hear.lo, .int .i64 b.hear.hi, .int .i64 b.br, .int .i64 b.cr, .int .i64 b.sl, .ref 1]), (0, .sl .ro 65 5 b.ships encShip zShip), (1, .sl .ro 70 4 b.sights encSight zSight), (2, .pf AsksAt (· = 0))], 8, []⟩) (fun k zz => True) trivial ⟨0, rfl, Le_sel (ts := [32, 31, 9, 26, 25, 6, 2, 1]) (ids := [7, 6, 5, 4, 3, 0, 1, 2]) (nx := 8) (by kernel_rfl)⟩ ?_ ?_
      · intro k2 zz hn2 hp2 hi2 Q2 hq2 ho2
        refine WP_seq (WP_region (WPO_all tt_ok (by kernel_rfl) ?_))
        refine WP_seq (WP_cond (decide ((k2 : Int) < (b.ships.length : Int))) (by kernel_rfl) (fun hc5 => ?_) (fun hc5 => ?_))
        rotate_left
        · refine WP_exit ?_
          show Q2 (.exit 2) _
          exact LA_exit hq2 () (loopR_end hi2 hc5) ⟨k2, hn2, hp2⟩ (Le_sel (ts := [26, 25, 6, 2, 1]) (ids := [7, 6, 5, 4, 3, 0, 1, 2]) (nx := 8) (by kernel_rfl))
        have hc5' := of_decide_eq_true hc5
        have hk2 : k2 < b.ships.length := by omega
        refine WP_skip ?_
        refine WP_seq (WP_block ?_)
        refine WP_seq (WP_region (WPO_all tt_ok (by kernel_rfl) ?_))
        have hwb : IntKind.i64.wrap (begin + (k1 : Int)) = begin + (k1 : Int) := wrapI (by omega) (by omega)
        refine WP_seq (WP_region (WPO_run tt_ok 6 (by kernel_rfl) ?_))
        refine CALL 81 [.g [.ref 0, .int .i64 b.hear.lo, .int .i64 b.hear.hi, .int .i64 b.br, .int .i64 b.cr, .int .i64 b.sl, .ref 1, .ref 4], .s (.int .i64 (k2 : Int)), .g [.int .i64 (IntKind.i64.wrap (begin + (k1 : Int))), .int .i64 1]] (.s (.bool (someF b ([]) (k2 : Int).toNat (IntKind.i64.wrap (begin + (k1 : Int))).toNat (1 : Int).toNat))) [] (by kernel_rfl) (goes_of (by kernel_rfl)) (by kernel_rfl) (by kernel_rfl) (fun _ nV w h => some_callsI (nV 0) (nV 1) (nV 4) b ([]) mp24 (k2 : Int) (IntKind.i64.wrap (begin + (k1 : Int))) 1 w ⟨h.reads (id := 0) (kd := .ro) (e := 65) (by kernel_rfl), h.reads (id := 1) (kd := .ro) (e := 70) (by kernel_rfl)⟩ (HSat_toK 4 5 .own h (by kernel_rfl) (by kernel_rfl)) (by first | assumption | omega | (constructor <;> omega) | (refine ⟨?_, ?_, ?_⟩ <;> omega)) (by first | assumption | omega | (constructor <;> omega) | (refine ⟨?_, ?_, ?_⟩ <;> omega))) ?_
        refine WPO_nil ?_
        refine WP_cond (someF b ([]) (k2 : Int).toNat (IntKind.i64.wrap (begin + (k1 : Int))).toNat (1 : Int).toNat) (by kernel_rfl) (fun hc7 => ?_) (fun hc7 => ?_)
        · refine WP_seq (WP_region (WPO_all tt_ok (by kernel_rfl) ?_))
          refine WP_ret ?_
          show Q2 .ret _
          refine LA_ret hq2 ?_
          show Q1 .ret _
          refine LA_ret hq1 ?_
          have he8 := loopR_ret (r := (IntKind.i64.wrap (begin + (k1 : Int)), 0)) hi2 hk2 hc5 (by unfold mayA_b2; simp only [hc7, cond_true, cond_false])
          have he9 := loopR_ret (r := (IntKind.i64.wrap (begin + (k1 : Int)), 0)) hi1 hk1 hc4 (by unfold mayA_b1; simp only [he8, cond_true, cond_false])
          exact ⟨.t [(false, [.int .i64 (IntKind.i64.wrap (begin + (k1 : Int)))]), (false, [.int .i64 0])], by kernel_rfl, fun nV w' h => ⟨by rw [show mayA b begin = (IntKind.i64.wrap (begin + (k1 : Int)), 0) from by unfold mayA; simp only [hq, hc3, he9, cond_true, cond_false]]; rfl, h.bel⟩⟩
        refine WP_skip ?_
        refine WP_region (WPO_all tt_ok (by kernel_rfl) ?_)
        show Q2 .normal _
        exact LA_go hq2 (ci := IntKind.i64.wrap ((k2 : Int) + 1)) () hk2 (by show _ = ((k2 + 1 : Nat) : Int); rw [wrapI (by omega) (by omega)]; omega) (loopR_go hi2 hk2 hc5 (by unfold mayA_b2; simp only [hc7, cond_true, cond_false])) trivial (Le_sel (ts := [32, 31, 9, 26, 25, 6, 2, 1]) (ids := [7, 6, 5, 4, 3, 0, 1, 2]) (nx := 8) (by kernel_rfl))
      intro zz hR2 hP2 s' hl
      refine WP_le hl ?_
      clear hl s'
      refine WP_region (WPO_all tt_ok (by kernel_rfl) ?_)
      show Q1 .normal _
      exact LA_go hq1 (ci := IntKind.i64.wrap ((k1 : Int) + 1)) () hk1 (by show _ = ((k1 + 1 : Nat) : Int); rw [wrapI (by omega) (by omega)]; omega) (loopR_go hi1 hk1 hc4 (by unfold mayA_b1; simp only [hR2, cond_true, cond_false])) trivial (Le_sel (ts := [26, 25, 6, 2, 1]) (ids := [7, 6, 5, 4, 3, 0, 1, 2]) (nx := 8) (by kernel_rfl))
    intro zz hR1 hP1 s' hl
    refine WP_le hl ?_
    clear hl s'
    refine WP_seq (WP_region (WPO_all tt_ok (by kernel_rfl) ?_))
    refine WP_ret ?_
    exact ⟨.t [(false, [.int .i64 0]), (false, [.int .i64 4])], by kernel_rfl, fun nV w' h => ⟨by rw [show mayA b begin = (0, 4) from by unfold mayA; simp only [hq, hc3, hR1, cond_true, cond_false]]; rfl, h.bel⟩⟩
def whenA_c1 (b : Book) (ship : Int) (k1 : Nat) : (List Int) → Bool := fun v1_1 => decide ((k1 : Int) < 201)
def whenA_b1 (b : Book) (ship : Int) (k1 : Nat) : (List Int) → Bd (List Int) (Span × Int) := fun v1_1 => (bif someF b ([]) ship.toNat (k1 : Int).toNat (1 : Int).toNat then .go (v1_1 ++ ([(k1 : Int)])) else .go v1_1)
def whenA (b : Book) (ship : Int) : Span × Int :=
  (bif (checkW b == 0) && (withinF ship 0 (b.ships.length - 1)) then (bif (askT b) != 0 then ((⟨0, 0⟩ : Span), askT b) else (match loopR (whenA_c1 b ship) (whenA_b1 b ship) 201 0 ([]) with | .brk u1_0 => (bif (u1_0.length : Int) == 0 then ((⟨0, 0⟩ : Span), 4) else ((⟨(u1_0.getD 0 0), (u1_0.getD (IntKind.i64.wrap ((u1_0.length : Int) - 1)).toNat 0)⟩ : Span), 0)) | .ret r => r)) else (bif (askN b) != 0 then ((⟨0, 0⟩ : Span), askN b) else ((⟨0, 0⟩ : Span), askN b)))
theorem whenA_calls (g0 g1 : Value) (b : Book) (ship : Int) (w : World) (r0 : Reads w g0 5 b.ships encShip zShip) (r1 : Reads w g1 4 b.sights encSight zSight) (ha : AsksAt w) : Calls Tryd.prog 36 #[.agg #[g0, iv b.hear.lo, iv b.hear.hi, iv b.br, iv b.cr, iv b.sl, g1], iv ship] w fun e w' => e = .returned (.tuple #[.agg #[iv (whenA b ship).1.lo, iv (whenA b ship).1.hi], iv (whenA b ship).2]) ∧ Below w.heap.size w w' := by
  cases hq : ((checkW b == 0) && (withinF ship 0 (b.ships.length - 1)))
  · refine calls_of_WP (cx := cx0 w (vn [g0, g1]) 2) (n := vn [g0, g1]) (vs := [.g [.ref 0, .int .i64 b.hear.lo, .int .i64 b.hear.hi, .int .i64 b.br, .int .i64 b.cr, .int .i64 b.sl, .ref 1], .s (.int .i64 ship)]) (hp := [(0, .sl .ro 65 5 b.ships encShip zShip), (1, .sl .ro 70 4 b.sights encSight zSight), (2, .pf AsksAt (· = 0))]) (nx := 3) tt_ok Tryd.func36 rfl rfl rfl (by kernel_rfl) (HSat_args (vn_one (by simp [r0.one, r1.one])) (by decide) ⟨⟨⟨fun _ => rfl, by decide, r0⟩, (Nat.le_of_ble_eq_true rfl)⟩, ⟨⟨fun _ => rfl, by decide, r1⟩, (Nat.le_of_ble_eq_true rfl)⟩, ⟨⟨ha, fun w1 w2 h1 hw => (hw 0 rfl).trans h1, fun g hg => by cases hg; exact (Array.getElem?_eq_some_iff.1 ha).1⟩, (Nat.le_of_ble_eq_true rfl)⟩, trivial⟩) (vsOk (by kernel_rfl)) ?_
    have hl0 := Reads.len r0
    have hl1 := Reads.len r1
    refine WP_seq (WP_region (WPO_all tt_ok (by kernel_rfl) ?_))
    refine WP_seq (WP_toX (σ := Unit) (fun _ => ⟨49, [(7, [], .s (.int .i64 (askN b))), (6, [], .s (.p 5 0)), (4, [], .s (.p 4 0)), (1, [], .s (.int .i64 ship))], [(5, .box 94 [.v (.slice none 0 0), .int .i64 0, .int .i64 0, .int .i64 0, .int .i64 0, .int .i64 0, .v (.slice none 0 0), .v (.slice none 0 0)]), (4, .box 24 [.int .i64 0, .int .i64 0]), (3, .box 27 [.ref 0, .int .i64 b.hear.lo, .int .i64 b.hear.hi, .int .i64 b.br, .int .i64 b.cr, .int .i64 b.sl, .ref 1]), (0, .sl .ro 65 5 b.ships encShip zShip), (1, .sl .ro 70 4 b.sights encSight zSight), (2, .pf AsksAt (· = 0))], 6, []⟩) ?_ ?_)
    · refine WP_drawH [] (by kernel_rfl) (by kernel_rfl) ?_
      refine H_run tt_ok [0, 1, 2] (f' := 8) (by kernel_rfl) (by kernel_rfl) (by kernel_rfl) ?_
      refine H_two 3 8 (by kernel_rfl) (by kernel_rfl) (by kernel_rfl) (fun hfz cx' hx1 hx2 => ?_) (fun hfz cx' hx1 hx2 => ?_)
      · refine CALL 84 [.g [.ref 0, .int .i64 b.hear.lo, .int .i64 b.hear.hi, .int .i64 b.br, .int .i64 b.cr, .int .i64 b.sl, .ref 1], .s (.int .i64 ship)] (.s (.bool (withinF ship 0 (b.ships.length - 1)))) [] (by kernel_rfl) (goes_of (by kernel_rfl)) (by kernel_rfl) (by kernel_rfl) (fun _ nV w h => isShip_calls (nV 0) (nV 1) b _ w ⟨h.reads (id := 0) (kd := .ro) (e := 65) (by kernel_rfl), h.reads (id := 1) (kd := .ro) (e := 70) (by kernel_rfl)⟩) ?_
        refine WPO_end (by kernel_rfl) ⟨rfl, (hfz.fnds [4, 3, 0, 1, 2] (by kernel_rfl) ⟨by kernel_rfl, by kernel_rfl, by kernel_rfl, by kernel_rfl, by kernel_rfl, trivial⟩ (by kernel_rfl)), ?_⟩
        refine H_two 4 8 (by kernel_rfl) (by kernel_rfl) (by kernel_rfl) (fun hfz cx' hx1 hx2 => ?_) (fun hfz cx' hx1 hx2 => ?_)
        · refine CALL 76 [.g [.ref 0, .int .i64 b.hear.lo, .int .i64 b.hear.hi, .int .i64 b.br, .int .i64 b.cr, .int .i64 b.sl, .ref 1], .s (.bool (withinF ship 0 (b.ships.length - 1)))] (.t [(true, [.v (.slice none 0 0), .int .i64 0, .int .i64 0, .int .i64 0, .int .i64 0, .int .i64 0, .v (.slice none 0 0), .v (.slice none 0 0)]), (false, [.int .i64 (askN b)])]) [] (by kernel_rfl) (goes_of (by kernel_rfl)) (by kernel_rfl) (by kernel_rfl) (fun _ nV w h => asked_no (nV 0) (nV 1) b _ w ⟨h.reads (id := 0) (kd := .ro) (e := 65) (by kernel_rfl), h.reads (id := 1) (kd := .ro) (e := 70) (by kernel_rfl)⟩ hq) ?_
          refine WPO_end (by kernel_rfl) ⟨rfl, (hfz.fnds [4, 3, 0, 1, 2] (by kernel_rfl) ⟨by kernel_rfl, by kernel_rfl, by kernel_rfl, by kernel_rfl, by kernel_rfl, trivial⟩ (by kernel_rfl)), ?_⟩
          refine H_run tt_ok [5, 6, 7] (f' := 3) (by kernel_rfl) (by kernel_rfl) (by kernel_rfl) ?_
          refine H_step 8 (by kernel_rfl) (by kernel_rfl) (fun hfz cx' hx1 hx2 => ?_)
          refine WPO_all tt_ok (by kernel_rfl) ?_
          refine ⟨rfl, (hfz.fnds [4, 3, 0, 1, 2] (by kernel_rfl) ⟨by kernel_rfl, by kernel_rfl, by kernel_rfl, by kernel_rfl, by kernel_rfl, trivial⟩ (by kernel_rfl)), ?_⟩
          refine H_step 9 (by kernel_rfl) (by kernel_rfl) (fun hfz cx' hx1 hx2 => ?_)
          refine WPO_all tt_ok (by kernel_rfl) ?_
          refine ⟨rfl, (hfz.fnds [4, 3, 0, 1, 2] (by kernel_rfl) ⟨by kernel_rfl, by kernel_rfl, by kernel_rfl, by kernel_rfl, by kernel_rfl, trivial⟩ (by kernel_rfl)), ?_⟩
          refine H_run tt_ok [10] (f' := 0) (by kernel_rfl) (by kernel_rfl) (by kernel_rfl) ?_
          refine H_done (by kernel_rfl) ?_
          exact ⟨(), Le_sel (ts := [7, 6, 4, 1]) (ids := [5, 4, 3, 0, 1, 2]) (nx := 6) (by kernel_rfl)⟩
        · refine WPO_all tt_ok (by kernel_rfl) ?_
          refine ⟨rfl, (hfz.fnds [4, 3, 0, 1, 2] (by kernel_rfl) ⟨by kernel_rfl, by kernel_rfl, by kernel_rfl, by kernel_rfl, by kernel_rfl, trivial⟩ (by kernel_rfl)), ?_⟩
          refine H_step 4 (by kernel_rfl) (by kernel_rfl) (fun hfz cx' hx1 hx2 => ?_)
          refine CALL 76 [.g [.ref 0, .int .i64 b.hear.lo, .int .i64 b.hear.hi, .int .i64 b.br, .int .i64 b.cr, .int .i64 b.sl, .ref 1], .s (.bool (withinF ship 0 (b.ships.length - 1)))] (.t [(true, [.v (.slice none 0 0), .int .i64 0, .int .i64 0, .int .i64 0, .int .i64 0, .int .i64 0, .v (.slice none 0 0), .v (.slice none 0 0)]), (false, [.int .i64 (askN b)])]) [] (by kernel_rfl) (goes_of (by kernel_rfl)) (by kernel_rfl) (by kernel_rfl) (fun _ nV w h => asked_no (nV 0) (nV 1) b _ w ⟨h.reads (id := 0) (kd := .ro) (e := 65) (by kernel_rfl), h.reads (id := 1) (kd := .ro) (e := 70) (by kernel_rfl)⟩ hq) ?_
          refine WPO_end (by kernel_rfl) ⟨rfl, (hfz.fnds [4, 3, 0, 1, 2] (by kernel_rfl) ⟨by kernel_rfl, by kernel_rfl, by kernel_rfl, by kernel_rfl, by kernel_rfl, trivial⟩ (by kernel_rfl)), ?_⟩
          refine H_run tt_ok [5, 6, 7] (f' := 2) (by kernel_rfl) (by kernel_rfl) (by kernel_rfl) ?_
          refine H_step 9 (by kernel_rfl) (by kernel_rfl) (fun hfz cx' hx1 hx2 => ?_)
          refine WPO_all tt_ok (by kernel_rfl) ?_
          refine ⟨rfl, (hfz.fnds [4, 3, 0, 1, 2] (by kernel_rfl) ⟨by kernel_rfl, by kernel_rfl, by kernel_rfl, by kernel_rfl, by kernel_rfl, trivial⟩ (by kernel_rfl)), ?_⟩
          refine H_run tt_ok [10] (f' := 0) (by kernel_rfl) (by kernel_rfl) (by kernel_rfl) ?_
          refine H_done (by kernel_rfl) ?_
          exact ⟨(), Le_sel (ts := [7, 6, 4, 1]) (ids := [5, 4, 3, 0, 1, 2]) (nx := 6) (by kernel_rfl)⟩
      · refine WPO_all tt_ok (by kernel_rfl) ?_
        refine ⟨rfl, (hfz.fnds [4, 3, 0, 1, 2] (by kernel_rfl) ⟨by kernel_rfl, by kernel_rfl, by kernel_rfl, by kernel_rfl, by kernel_rfl, trivial⟩ (by kernel_rfl)), ?_⟩
        refine H_step 3 (by kernel_rfl) (by kernel_rfl) (fun hfz cx' hx1 hx2 => ?_)
        refine CALL 84 [.g [.ref 0, .int .i64 b.hear.lo, .int .i64 b.hear.hi, .int .i64 b.br, .int .i64 b.cr, .int .i64 b.sl, .ref 1], .s (.int .i64 ship)] (.s (.bool (withinF ship 0 (b.ships.length - 1)))) [] (by kernel_rfl) (goes_of (by kernel_rfl)) (by kernel_rfl) (by kernel_rfl) (fun _ nV w h => isShip_calls (nV 0) (nV 1) b _ w ⟨h.reads (id := 0) (kd := .ro) (e := 65) (by kernel_rfl), h.reads (id := 1) (kd := .ro) (e := 70) (by kernel_rfl)⟩) ?_
        refine WPO_end (by kernel_rfl) ⟨rfl, (hfz.fnds [4, 3, 0, 1, 2] (by kernel_rfl) ⟨by kernel_rfl, by kernel_rfl, by kernel_rfl, by kernel_rfl, by kernel_rfl, trivial⟩ (by kernel_rfl)), ?_⟩
        refine H_step 4 (by kernel_rfl) (by kernel_rfl) (fun hfz cx' hx1 hx2 => ?_)
        refine CALL 76 [.g [.ref 0, .int .i64 b.hear.lo, .int .i64 b.hear.hi, .int .i64 b.br, .int .i64 b.cr, .int .i64 b.sl, .ref 1], .s (.bool (withinF ship 0 (b.ships.length - 1)))] (.t [(true, [.v (.slice none 0 0), .int .i64 0, .int .i64 0, .int .i64 0, .int .i64 0, .int .i64 0, .v (.slice none 0 0), .v (.slice none 0 0)]), (false, [.int .i64 (askN b)])]) [] (by kernel_rfl) (goes_of (by kernel_rfl)) (by kernel_rfl) (by kernel_rfl) (fun _ nV w h => asked_no (nV 0) (nV 1) b _ w ⟨h.reads (id := 0) (kd := .ro) (e := 65) (by kernel_rfl), h.reads (id := 1) (kd := .ro) (e := 70) (by kernel_rfl)⟩ hq) ?_
        refine WPO_end (by kernel_rfl) ⟨rfl, (hfz.fnds [4, 3, 0, 1, 2] (by kernel_rfl) ⟨by kernel_rfl, by kernel_rfl, by kernel_rfl, by kernel_rfl, by kernel_rfl, trivial⟩ (by kernel_rfl)), ?_⟩
        refine H_run tt_ok [5, 6, 7] (f' := 2) (by kernel_rfl) (by kernel_rfl) (by kernel_rfl) ?_
        refine H_step 9 (by kernel_rfl) (by kernel_rfl) (fun hfz cx' hx1 hx2 => ?_)
        refine WPO_all tt_ok (by kernel_rfl) ?_
        refine ⟨rfl, (hfz.fnds [4, 3, 0, 1, 2] (by kernel_rfl) ⟨by kernel_rfl, by kernel_rfl, by kernel_rfl, by kernel_rfl, by kernel_rfl, trivial⟩ (by kernel_rfl)), ?_⟩
        refine H_run tt_ok [10] (f' := 0) (by kernel_rfl) (by kernel_rfl) (by kernel_rfl) ?_
        refine H_done (by kernel_rfl) ?_
        exact ⟨(), Le_sel (ts := [7, 6, 4, 1]) (ids := [5, 4, 3, 0, 1, 2]) (nx := 6) (by kernel_rfl)⟩
    intro _
    refine WP_seq (WP_seq (WP_region (WPO_all tt_ok (by kernel_rfl) ?_)))
    refine WP_cond ((askN b) != 0) (by kernel_rfl) (fun hc1 => ?_) (fun h => by rw [askN_ne b] at h; cases h)
    refine WP_seq (WP_region (WPO_all tt_ok (by kernel_rfl) ?_))
    refine WP_ret ?_
    exact ⟨.t [(true, [.int .i64 0, .int .i64 0]), (false, [.int .i64 (askN b)])], by kernel_rfl, fun nV w' h => ⟨by rw [show whenA b ship = ((⟨0, 0⟩ : Span), askN b) from by unfold whenA; simp only [hq, hc1, cond_true, cond_false]]; rfl, h.bel⟩⟩
  · obtain ⟨hq1, hq2⟩ := ask_two hq
    have hv : Valid b := check_valid.1 hq1
    have hbs := hv.nships
    have hbc := hv.cr
    have hbl := hv.sl
    have hw1 := within_one hq2
    refine calls_of_WP (cx := cx0 w (vn [g0, g1]) 2) (n := vn [g0, g1]) (vs := [.g [.ref 0, .int .i64 b.hear.lo, .int .i64 b.hear.hi, .int .i64 b.br, .int .i64 b.cr, .int .i64 b.sl, .ref 1], .s (.int .i64 ship)]) (hp := [(0, .sl .ro 65 5 b.ships encShip zShip), (1, .sl .ro 70 4 b.sights encSight zSight), (2, .pf AsksAt (· = 0))]) (nx := 3) tt_ok Tryd.func36 rfl rfl rfl (by kernel_rfl) (HSat_args (vn_one (by simp [r0.one, r1.one])) (by decide) ⟨⟨⟨fun _ => rfl, by decide, r0⟩, (Nat.le_of_ble_eq_true rfl)⟩, ⟨⟨fun _ => rfl, by decide, r1⟩, (Nat.le_of_ble_eq_true rfl)⟩, ⟨⟨ha, fun w1 w2 h1 hw => (hw 0 rfl).trans h1, fun g hg => by cases hg; exact (Array.getElem?_eq_some_iff.1 ha).1⟩, (Nat.le_of_ble_eq_true rfl)⟩, trivial⟩) (vsOk (by kernel_rfl)) ?_
    have hl0 := Reads.len r0
    have hl1 := Reads.len r1
    refine WP_seq (WP_region (WPO_all tt_ok (by kernel_rfl) ?_))
    refine WP_seq (WP_toX (σ := List Nat) (fun mp33 => ⟨49, [(7, [], .s (.int .i64 (askT b))), (6, [], .s (.p 7 0)), (4, [], .s (.p 4 0)), (1, [], .s (.int .i64 ship))], [(7, .box 94 [.ref 0, .int .i64 b.hear.lo, .int .i64 b.hear.hi, .int .i64 b.br, .int .i64 b.cr, .int .i64 b.sl, .ref 1, .ref 5]), (6, pfK b [] mp33), (5, .sl .own 100 1 mp33 encM 0), (4, .box 24 [.int .i64 0, .int .i64 0]), (3, .box 27 [.ref 0, .int .i64 b.hear.lo, .int .i64 b.hear.hi, .int .i64 b.br, .int .i64 b.cr, .int .i64 b.sl, .ref 1]), (0, .sl .ro 65 5 b.ships encShip zShip), (1, .sl .ro 70 4 b.sights encSight zSight), (2, .pf AsksAt (· = 0))], 8, []⟩) ?_ ?_)
    · refine WP_drawH [] (by kernel_rfl) (by kernel_rfl) ?_
      refine H_run tt_ok [0, 1, 2] (f' := 8) (by kernel_rfl) (by kernel_rfl) (by kernel_rfl) ?_
      refine H_two 3 8 (by kernel_rfl) (by kernel_rfl) (by kernel_rfl) (fun hfz cx' hx1 hx2 => ?_) (fun hfz cx' hx1 hx2 => ?_)
      · refine CALL 84 [.g [.ref 0, .int .i64 b.hear.lo, .int .i64 b.hear.hi, .int .i64 b.br, .int .i64 b.cr, .int .i64 b.sl, .ref 1], .s (.int .i64 ship)] (.s (.bool (withinF ship 0 (b.ships.length - 1)))) [] (by kernel_rfl) (goes_of (by kernel_rfl)) (by kernel_rfl) (by kernel_rfl) (fun _ nV w h => isShip_calls (nV 0) (nV 1) b _ w ⟨h.reads (id := 0) (kd := .ro) (e := 65) (by kernel_rfl), h.reads (id := 1) (kd := .ro) (e := 70) (by kernel_rfl)⟩) ?_
        refine WPO_end (by kernel_rfl) ⟨rfl, (hfz.fnds [4, 3, 0, 1, 2] (by kernel_rfl) ⟨by kernel_rfl, by kernel_rfl, by kernel_rfl, by kernel_rfl, by kernel_rfl, trivial⟩ (by kernel_rfl)), ?_⟩
        refine H_two 4 8 (by kernel_rfl) (by kernel_rfl) (by kernel_rfl) (fun hfz cx' hx1 hx2 => ?_) (fun hfz cx' hx1 hx2 => ?_)
        · refine CALLMAPS 76 [.g [.ref 0, .int .i64 b.hear.lo, .int .i64 b.hear.hi, .int .i64 b.br, .int .i64 b.cr, .int .i64 b.sl, .ref 1], .s (.bool (withinF ship 0 (b.ships.length - 1)))] (.t [(true, [.ref 0, .int .i64 b.hear.lo, .int .i64 b.hear.hi, .int .i64 b.br, .int .i64 b.cr, .int .i64 b.sl, .ref 1, .ref 5]), (false, [.int .i64 (askT b)])]) 100 encM (CanF b []) 5 (by kernel_rfl) (by kernel_rfl) (by kernel_rfl) (goes_of (by kernel_rfl)) (fun _ => (by kernel_rfl)) (fun _ => (by kernel_rfl)) (fun _ => rfl) (fun m w1 w2 h1 h2 => CanF.stab m w1 w2 h1 h2) (fun m w h1 => CanF.maps m w h1) (fun nV w h => asked_yes (nV 0) (nV 1) b _ w ⟨h.reads (id := 0) (kd := .ro) (e := 65) (by kernel_rfl), h.reads (id := 1) (kd := .ro) (e := 70) (by kernel_rfl)⟩ hq1 hq2) (fun mp37 => ?_)
          refine WPO_end (by kernel_rfl) ⟨rfl, (hfz.fnds [4, 3, 0, 1, 2] (by kernel_rfl) ⟨by kernel_rfl, by kernel_rfl, by kernel_rfl, by kernel_rfl, by kernel_rfl, trivial⟩ (by kernel_rfl)), ?_⟩
          refine H_run tt_ok [5, 6, 7] (f' := 3) (by kernel_rfl) (by kernel_rfl) (by kernel_rfl) ?_
          refine H_step 8 (by kernel_rfl) (by kernel_rfl) (fun hfz cx' hx1 hx2 => ?_)
          refine WPO_all tt_ok (by kernel_rfl) ?_
          refine ⟨rfl, (hfz.fnds [4, 3, 0, 1, 2] (by kernel_rfl) ⟨by kernel_rfl, by kernel_rfl, by kernel_rfl, by kernel_rfl, by kernel_rfl, trivial⟩ (by kernel_rfl)), ?_⟩
          refine H_step 9 (by kernel_rfl) (by kernel_rfl) (fun hfz cx' hx1 hx2 => ?_)
          refine WPO_all tt_ok (by kernel_rfl) ?_
          refine ⟨rfl, (hfz.fnds [4, 3, 0, 1, 2] (by kernel_rfl) ⟨by kernel_rfl, by kernel_rfl, by kernel_rfl, by kernel_rfl, by kernel_rfl, trivial⟩ (by kernel_rfl)), ?_⟩
          refine H_run tt_ok [10] (f' := 0) (by kernel_rfl) (by kernel_rfl) (by kernel_rfl) ?_
          refine H_done (by kernel_rfl) ?_
          exact ⟨mp37, Le_sel (ts := [7, 6, 4, 1]) (ids := [7, 6, 5, 4, 3, 0, 1, 2]) (nx := 8) (by kernel_rfl)⟩
        · refine WPO_all tt_ok (by kernel_rfl) ?_
          refine ⟨rfl, (hfz.fnds [4, 3, 0, 1, 2] (by kernel_rfl) ⟨by kernel_rfl, by kernel_rfl, by kernel_rfl, by kernel_rfl, by kernel_rfl, trivial⟩ (by kernel_rfl)), ?_⟩
          refine H_step 4 (by kernel_rfl) (by kernel_rfl) (fun hfz cx' hx1 hx2 => ?_)
          refine CALLMAPS 76 [.g [.ref 0, .int .i64 b.hear.lo, .int .i64 b.hear.hi, .int .i64 b.br, .int .i64 b.cr, .int .i64 b.sl, .ref 1], .s (.bool (withinF ship 0 (b.ships.length - 1)))] (.t [(true, [.ref 0, .int .i64 b.hear.lo, .int .i64 b.hear.hi, .int .i64 b.br, .int .i64 b.cr, .int .i64 b.sl, .ref 1, .ref 6]), (false, [.int .i64 (askT b)])]) 100 encM (CanF b []) 6 (by kernel_rfl) (by kernel_rfl) (by kernel_rfl) (goes_of (by kernel_rfl)) (fun _ => (by kernel_rfl)) (fun _ => (by kernel_rfl)) (fun _ => rfl) (fun m w1 w2 h1 h2 => CanF.stab m w1 w2 h1 h2) (fun m w h1 => CanF.maps m w h1) (fun nV w h => asked_yes (nV 0) (nV 1) b _ w ⟨h.reads (id := 0) (kd := .ro) (e := 65) (by kernel_rfl), h.reads (id := 1) (kd := .ro) (e := 70) (by kernel_rfl)⟩ hq1 hq2) (fun mp38 => ?_)
          refine WPO_end (by kernel_rfl) ⟨rfl, (hfz.fnds [4, 3, 0, 1, 2] (by kernel_rfl) ⟨by kernel_rfl, by kernel_rfl, by kernel_rfl, by kernel_rfl, by kernel_rfl, trivial⟩ (by kernel_rfl)), ?_⟩
          refine H_run tt_ok [5, 6, 7] (f' := 2) (by kernel_rfl) (by kernel_rfl) (by kernel_rfl) ?_
          refine H_step 9 (by kernel_rfl) (by kernel_rfl) (fun hfz cx' hx1 hx2 => ?_)
          refine WPO_all tt_ok (by kernel_rfl) ?_
          refine ⟨rfl, (hfz.fnds [4, 3, 0, 1, 2] (by kernel_rfl) ⟨by kernel_rfl, by kernel_rfl, by kernel_rfl, by kernel_rfl, by kernel_rfl, trivial⟩ (by kernel_rfl)), ?_⟩
          refine H_run tt_ok [10] (f' := 0) (by kernel_rfl) (by kernel_rfl) (by kernel_rfl) ?_
          refine H_done (by kernel_rfl) ?_
          exact ⟨mp38, Le_ren [(7, 5), (6, 7), (5, 6)] ⟨by kernel_rfl, by kernel_rfl, by kernel_rfl, by kernel_rfl, by kernel_rfl, by kernel_rfl, by kernel_rfl, by kernel_rfl, trivial⟩ ⟨by kernel_rfl, rfl, by kernel_rfl, by kernel_rfl, rfl, by kernel_rfl, by kernel_rfl, rfl, by kernel_rfl, by kernel_rfl, rfl, by kernel_rfl, trivial⟩ (by kernel_rfl) (by kernel_rfl) (rnm_id (m := 2) (by kernel_rfl)) (by show 2 ≤ 8; decide) (by kernel_rfl) (by kernel_rfl)⟩
      · refine WPO_all tt_ok (by kernel_rfl) ?_
        refine ⟨rfl, (hfz.fnds [4, 3, 0, 1, 2] (by kernel_rfl) ⟨by kernel_rfl, by kernel_rfl, by kernel_rfl, by kernel_rfl, by kernel_rfl, trivial⟩ (by kernel_rfl)), ?_⟩
        refine H_step 3 (by kernel_rfl) (by kernel_rfl) (fun hfz cx' hx1 hx2 => ?_)
        refine CALL 84 [.g [.ref 0, .int .i64 b.hear.lo, .int .i64 b.hear.hi, .int .i64 b.br, .int .i64 b.cr, .int .i64 b.sl, .ref 1], .s (.int .i64 ship)] (.s (.bool (withinF ship 0 (b.ships.length - 1)))) [] (by kernel_rfl) (goes_of (by kernel_rfl)) (by kernel_rfl) (by kernel_rfl) (fun _ nV w h => isShip_calls (nV 0) (nV 1) b _ w ⟨h.reads (id := 0) (kd := .ro) (e := 65) (by kernel_rfl), h.reads (id := 1) (kd := .ro) (e := 70) (by kernel_rfl)⟩) ?_
        refine WPO_end (by kernel_rfl) ⟨rfl, (hfz.fnds [4, 3, 0, 1, 2] (by kernel_rfl) ⟨by kernel_rfl, by kernel_rfl, by kernel_rfl, by kernel_rfl, by kernel_rfl, trivial⟩ (by kernel_rfl)), ?_⟩
        refine H_step 4 (by kernel_rfl) (by kernel_rfl) (fun hfz cx' hx1 hx2 => ?_)
        refine CALLMAPS 76 [.g [.ref 0, .int .i64 b.hear.lo, .int .i64 b.hear.hi, .int .i64 b.br, .int .i64 b.cr, .int .i64 b.sl, .ref 1], .s (.bool (withinF ship 0 (b.ships.length - 1)))] (.t [(true, [.ref 0, .int .i64 b.hear.lo, .int .i64 b.hear.hi, .int .i64 b.br, .int .i64 b.cr, .int .i64 b.sl, .ref 1, .ref 6]), (false, [.int .i64 (askT b)])]) 100 encM (CanF b []) 6 (by kernel_rfl) (by kernel_rfl) (by kernel_rfl) (goes_of (by kernel_rfl)) (fun _ => (by kernel_rfl)) (fun _ => (by kernel_rfl)) (fun _ => rfl) (fun m w1 w2 h1 h2 => CanF.stab m w1 w2 h1 h2) (fun m w h1 => CanF.maps m w h1) (fun nV w h => asked_yes (nV 0) (nV 1) b _ w ⟨h.reads (id := 0) (kd := .ro) (e := 65) (by kernel_rfl), h.reads (id := 1) (kd := .ro) (e := 70) (by kernel_rfl)⟩ hq1 hq2) (fun mp39 => ?_)
        refine WPO_end (by kernel_rfl) ⟨rfl, (hfz.fnds [4, 3, 0, 1, 2] (by kernel_rfl) ⟨by kernel_rfl, by kernel_rfl, by kernel_rfl, by kernel_rfl, by kernel_rfl, trivial⟩ (by kernel_rfl)), ?_⟩
        refine H_run tt_ok [5, 6, 7] (f' := 2) (by kernel_rfl) (by kernel_rfl) (by kernel_rfl) ?_
        refine H_step 9 (by kernel_rfl) (by kernel_rfl) (fun hfz cx' hx1 hx2 => ?_)
        refine WPO_all tt_ok (by kernel_rfl) ?_
        refine ⟨rfl, (hfz.fnds [4, 3, 0, 1, 2] (by kernel_rfl) ⟨by kernel_rfl, by kernel_rfl, by kernel_rfl, by kernel_rfl, by kernel_rfl, trivial⟩ (by kernel_rfl)), ?_⟩
        refine H_run tt_ok [10] (f' := 0) (by kernel_rfl) (by kernel_rfl) (by kernel_rfl) ?_
        refine H_done (by kernel_rfl) ?_
        exact ⟨mp39, Le_ren [(7, 5), (6, 7), (5, 6)] ⟨by kernel_rfl, by kernel_rfl, by kernel_rfl, by kernel_rfl, by kernel_rfl, by kernel_rfl, by kernel_rfl, by kernel_rfl, trivial⟩ ⟨by kernel_rfl, rfl, by kernel_rfl, by kernel_rfl, rfl, by kernel_rfl, by kernel_rfl, rfl, by kernel_rfl, by kernel_rfl, rfl, by kernel_rfl, trivial⟩ (by kernel_rfl) (by kernel_rfl) (rnm_id (m := 2) (by kernel_rfl)) (by show 2 ≤ 8; decide) (by kernel_rfl) (by kernel_rfl)⟩
    intro mp33
    refine WP_seq (WP_seq (WP_region (WPO_all tt_ok (by kernel_rfl) ?_)))
    refine WP_cond ((askT b) != 0) (by kernel_rfl) (fun hc3 => ?_) (fun hc3 => ?_)
    · have hc3' := hc3; try simp only [Bool.and_eq_true, Bool.or_eq_true, Bool.and_eq_false_iff, Bool.or_eq_false_iff, Bool.not_eq_true', Bool.not_eq_false', decide_eq_true_eq, decide_eq_false_iff_not, beq_iff_eq, beq_eq_false_iff_ne, bne_iff_ne, bne_eq_false_iff_eq, ne_eq] at hc3'
      refine WP_seq (WP_region (WPO_all tt_ok (by kernel_rfl) ?_))
      refine WP_ret ?_
      exact ⟨.t [(true, [.int .i64 0, .int .i64 0]), (false, [.int .i64 (askT b)])], by kernel_rfl, fun nV w' h => ⟨by rw [show whenA b ship = ((⟨0, 0⟩ : Span), askT b) from by unfold whenA; simp only [hq, hc3, cond_true, cond_false]]; rfl, h.bel⟩⟩
    have hc3' := hc3; try simp only [Bool.and_eq_true, Bool.or_eq_true, Bool.and_eq_false_iff, Bool.or_eq_false_iff, Bool.not_eq_true', Bool.not_eq_false', decide_eq_true_eq, decide_eq_false_iff_not, beq_iff_eq, beq_eq_false_iff_ne, bne_iff_ne, bne_eq_false_iff_eq, ne_eq] at hc3'
    refine WP_skip ?_
    refine WP_seq (WP_region (WPO_all tt_ok (by kernel_rfl) ?_))
    refine WP_seq (WP_seq (WP_region (WPO_all tt_ok (by kernel_rfl) ?_)))
    refine WP_loopA (ρ := Span × Int) (whenA_c1 b ship) (whenA_b1 b ship) 201 ([]) (fun k : Nat => (k : Int)) (fun (ci : Int) (zz : (List Int)) => ⟨49, [(22, [], .s (.int .i64 ci)), (8, [], .s (.ref 8)), (6, [], .s (.p 7 0)), (4, [], .s (.p 4 0)), (1, [], .s (.int .i64 ship))], [(8, .sl .own 3 1 zz encI 0), (7, .box 94 [.ref 0, .int .i64 b.hear.lo, .int .i64 b.hear.hi, .int .i64 b.br, .int .i64 b.cr, .int .i64 b.sl, .ref 1, .ref 5]), (6, pfK b [] mp33), (5, .sl .own 100 1 mp33 encM 0), (4, .box 24 [.int .i64 0, .int .i64 0]), (3, .box 27 [.ref 0, .int .i64 b.hear.lo, .int .i64 b.hear.hi, .int .i64 b.br, .int .i64 b.cr, .int .i64 b.sl, .ref 1]), (0, .sl .ro 65 5 b.ships encShip zShip), (1, .sl .ro 70 4 b.sights encSight zSight), (2, .pf AsksAt (· = 0))], 9, []⟩) (fun zz : (List Int) => ⟨49, [(8, [], .s (.ref 8)), (4, [], .s (.p 4 0))], [(8, .sl .own 3 1 zz encI 0), (7, .box 94 [.ref 0, .int .i64 b.hear.lo, .int .i64 b.hear.hi, .int .i64 b.br, .int .i64 b.cr, .int .i64 b.sl, .ref 1, .ref 5]), (6, pfK b [] mp33), (5, .sl .own 100 1 mp33 encM 0), (4, .box 24 [.int .i64 0, .int .i64 0]), (3, .box 27 [.ref 0, .int .i64 b.hear.lo, .int .i64 b.hear.hi, .int .i64 b.br, .int .i64 b.cr, .int .i64 b.sl, .ref 1]), (0, .sl .ro 65 5 b.ships encShip zShip), (1, .sl .ro 70 4 b.sights encSight zSight), (2, .pf AsksAt (· = 0))], 9, []⟩) (fun (k1 : Nat) (zz : (List Int)) => zz.length ≤ k1) (by simp) ⟨0, rfl, Le.trans (Le_nilT [8] 3 1 encI 0 (fun _ => rfl)) (Le_sel (ts := [22, 8, 6, 4, 1]) (ids := [8, 7, 6, 5, 4, 3, 0, 1, 2]) (nx := 9) (by kernel_rfl))⟩ ?_ ?_
    · intro k1 v1_1 hn1 hp1 hi1 Q1 hq1 ho1
      replace hp1 : v1_1.length ≤ k1 := hp1
      refine WP_seq (WP_region (WPO_all tt_ok (by kernel_rfl) ?_))
      refine WP_seq (WP_cond (decide ((k1 : Int) < 201)) (by kernel_rfl) (fun hc4 => ?_) (fun hc4 => ?_))
      rotate_left
      · refine WP_exit ?_
        show Q1 (.exit 0) _
        exact LA_exit hq1 v1_1 (loopR_end hi1 hc4) ⟨k1, hn1, hp1⟩ (Le_sel (ts := [8, 4]) (ids := [8, 7, 6, 5, 4, 3, 0, 1, 2]) (nx := 9) (by kernel_rfl))
      have hc4' := of_decide_eq_true hc4
      have hk1 : k1 < 201 := by omega
      refine WP_skip ?_
      refine WP_seq (WP_block ?_)
      refine WP_seq (WP_region (WPO_all tt_ok (by kernel_rfl) ?_))
      refine WP_seq (WP_region (WPO_run tt_ok 4 (by kernel_rfl) ?_))
      refine CALL 81 [.g [.ref 0, .int .i64 b.hear.lo, .int .i64 b.hear.hi, .int .i64 b.br, .int .i64 b.cr, .int .i64 b.sl, .ref 1, .ref 5], .s (.int .i64 ship), .g [.int .i64 (k1 : Int), .int .i64 1]] (.s (.bool (someF b ([]) ship.toNat (k1 : Int).toNat (1 : Int).toNat))) [] (by kernel_rfl) (goes_of (by kernel_rfl)) (by kernel_rfl) (by kernel_rfl) (fun _ nV w h => some_callsI (nV 0) (nV 1) (nV 5) b ([]) mp33 ship (k1 : Int) 1 w ⟨h.reads (id := 0) (kd := .ro) (e := 65) (by kernel_rfl), h.reads (id := 1) (kd := .ro) (e := 70) (by kernel_rfl)⟩ (HSat_toK 5 6 .own h (by kernel_rfl) (by kernel_rfl)) (by first | assumption | omega | (constructor <;> omega) | (refine ⟨?_, ?_, ?_⟩ <;> omega)) (by first | assumption | omega | (constructor <;> omega) | (refine ⟨?_, ?_, ?_⟩ <;> omega))) ?_
      refine WPO_nil ?_
      refine WP_cond (someF b ([]) ship.toNat (k1 : Int).toNat (1 : Int).toNat) (by kernel_rfl) (fun hc6 => ?_) (fun hc6 => ?_)
      · refine WP_region (WPO_run tt_ok 2 (by kernel_rfl) ?_)
        refine LIT tt_ok (by kernel_rfl) ?_
        refine LITSL 9 3 1 1 [.int .i64 (k1 : Int)] [(k1 : Int)] encI 0 (by kernel_rfl) rfl (fun _ => rfl) (fun n => rfl) ?_
        refine APP tt_ok (.s (.ref 8)) (.s (.ref 9)) 37 3 (some 33) 1 v1_1 ([(k1 : Int)]) encI 0 (by kernel_rfl) (by kernel_rfl) (by kernel_rfl) (by kernel_rfl) (.inr (.inl ⟨8, rfl, (by kernel_rfl)⟩)) (.inr ⟨9, .own, rfl, (by kernel_rfl), (by simp only [List.length_cons, List.length_nil]; omega)⟩) (by simp) (fun y => rfl) (fun y => List.all_eq_true.1 rfl) (fun i hi => (by have hby : (tyL tt 3).map (·.bytes) = some 8 := (by kernel_rfl); rw [hi] at hby; simp only [Option.map_some, Option.some.injEq] at hby; rw [hby]; simp only [List.length_append, List.length_cons, List.length_nil]; omega)) ?_
        refine WPO_all tt_ok (by kernel_rfl) ?_
        refine WP_region (WPO_all tt_ok (by kernel_rfl) ?_)
        show Q1 .normal _
        exact LA_go hq1 (ci := IntKind.i64.wrap ((k1 : Int) + 1)) (v1_1 ++ ([(k1 : Int)])) hk1 (by show _ = ((k1 + 1 : Nat) : Int); rw [wrapI (by omega) (by omega)]; omega) (loopR_go hi1 hk1 hc4 (by unfold whenA_b1; simp only [hc6, cond_true, cond_false])) (by simp only [List.length_append, List.length_cons, List.length_nil]; omega) (Le_ren [(8, 10)] ⟨by kernel_rfl, by kernel_rfl, by kernel_rfl, by kernel_rfl, by kernel_rfl, by kernel_rfl, by kernel_rfl, by kernel_rfl, by kernel_rfl, trivial⟩ ⟨by kernel_rfl, rfl, by kernel_rfl, by kernel_rfl, rfl, by kernel_rfl, by kernel_rfl, rfl, by kernel_rfl, by kernel_rfl, rfl, by kernel_rfl, by kernel_rfl, rfl, by kernel_rfl, trivial⟩ (by kernel_rfl) (by kernel_rfl) (rnm_id (m := 2) (by kernel_rfl)) (by show 2 ≤ 9; decide) (by kernel_rfl) (by kernel_rfl))
      refine WP_skip ?_
      refine WP_region (WPO_all tt_ok (by kernel_rfl) ?_)
      show Q1 .normal _
      exact LA_go hq1 (ci := IntKind.i64.wrap ((k1 : Int) + 1)) v1_1 hk1 (by show _ = ((k1 + 1 : Nat) : Int); rw [wrapI (by omega) (by omega)]; omega) (loopR_go hi1 hk1 hc4 (by unfold whenA_b1; simp only [hc6, cond_true, cond_false])) (by omega) (Le_sel (ts := [22, 8, 6, 4, 1]) (ids := [8, 7, 6, 5, 4, 3, 0, 1, 2]) (nx := 9) (by kernel_rfl))
    intro u1_0 hR1 hP1 s' hl
    obtain ⟨kP1, hkP1, hpP1⟩ := hP1
    replace hpP1 : u1_0.length ≤ kP1 := hpP1
    refine WP_le hl ?_
    clear hl s'
    refine WP_seq (WP_seq (WP_region (WPO_all tt_ok (by kernel_rfl) ?_)))
    refine WP_cond ((u1_0.length : Int) == 0) (by kernel_rfl) (fun hc8 => ?_) (fun hc8 => ?_)
    · have hc8' := hc8; try simp only [Bool.and_eq_true, Bool.or_eq_true, Bool.and_eq_false_iff, Bool.or_eq_false_iff, Bool.not_eq_true', Bool.not_eq_false', decide_eq_true_eq, decide_eq_false_iff_not, beq_iff_eq, beq_eq_false_iff_ne, bne_iff_ne, bne_eq_false_iff_eq, ne_eq] at hc8'
      refine WP_seq (WP_region (WPO_all tt_ok (by kernel_rfl) ?_))
      refine WP_ret ?_
      exact ⟨.t [(true, [.int .i64 0, .int .i64 0]), (false, [.int .i64 4])], by kernel_rfl, fun nV w' h => ⟨by rw [show whenA b ship = ((⟨0, 0⟩ : Span), 4) from by unfold whenA; simp only [hq, hc3, hR1, hc8, cond_true, cond_false]]; rfl, h.bel⟩⟩
    have hc8' := hc8; try simp only [Bool.and_eq_true, Bool.or_eq_true, Bool.and_eq_false_iff, Bool.or_eq_false_iff, Bool.not_eq_true', Bool.not_eq_false', decide_eq_true_eq, decide_eq_false_iff_not, beq_iff_eq, beq_eq_false_iff_ne, bne_iff_ne, bne_eq_false_iff_eq, ne_eq] at hc8'
    refine WP_skip ?_
    refine WP_seq (WP_drawHM 10 [] [4] (by kernel_rfl) (by kernel_rfl) ?_)
    refine H_run tt_ok [0] (f' := 9) (by kernel_rfl) (by kernel_rfl) (by kernel_rfl) ?_
    refine H_IX tt_ok 1 0 u1_0.length [] (by kernel_rfl) (fun hG => ⟨by omega, by omega⟩) (by kernel_rfl) (by kernel_rfl) ?_
    refine H_run tt_ok [2, 3, 4, 5, 6] (f' := 3) (by kernel_rfl) (by kernel_rfl) (by kernel_rfl) ?_
    refine H_IX tt_ok 7 (IntKind.i64.wrap ((u1_0.length : Int) - 1)) u1_0.length [] (by kernel_rfl) (fun hG => (by (try simp only [AllEq, and_true, Bool.and_eq_true, Bool.or_eq_true, Bool.not_eq_true', decide_eq_true_eq, decide_eq_false_iff_not] at hG); rw [wrapI (by omega) (by omega)]; constructor <;> omega)) (by kernel_rfl) (by kernel_rfl) ?_
    refine H_run tt_ok [8, 9] (f' := 0) (by kernel_rfl) (by kernel_rfl) (by kernel_rfl) ?_
    refine H_done (by kernel_rfl) ?_
    refine ⟨(by kernel_rfl), ?_⟩
    refine H_step 10 (by kernel_rfl) (by kernel_rfl) (fun hfz cx' hx1 hx2 => ?_)
    refine WPO_all tt_ok (by kernel_rfl) ?_
    refine ⟨rfl, (hfz.fnds [8, 7, 6, 5, 3, 0, 1, 2] (by kernel_rfl) ⟨by kernel_rfl, by kernel_rfl, by kernel_rfl, by kernel_rfl, by kernel_rfl, by kernel_rfl, by kernel_rfl, by kernel_rfl, trivial⟩ (by kernel_rfl)), ?_⟩
    refine H_run tt_ok [11] (f' := 0) (by kernel_rfl) (by kernel_rfl) (by kernel_rfl) ?_
    refine H_done (by kernel_rfl) ?_
    refine WP_ret ?_
    exact ⟨.t [(true, [.int .i64 (u1_0.getD 0 0), .int .i64 (u1_0.getD (IntKind.i64.wrap ((u1_0.length : Int) - 1)).toNat 0)]), (false, [.int .i64 0])], by kernel_rfl, fun nV w' h => ⟨by rw [show whenA b ship = ((⟨(u1_0.getD 0 0), (u1_0.getD (IntKind.i64.wrap ((u1_0.length : Int) - 1)).toNat 0)⟩ : Span), 0) from by unfold whenA; simp only [hq, hc3, hR1, hc8, cond_true, cond_false]]; rfl, h.bel⟩⟩
end Go.Proofs.YtamimgmoomcipaaDoor.Fw
namespace Go.Proofs.YtamimgmoomcipaaDoor.Eng
open Go Go.RowKit
set_option linter.unusedVariables false
set_option linter.unusedSimpArgs false
section
variable {P : Program} {tt : TT} {cx : Cx} {s s' : AS} {Q : Exit → AS → Prop} {ops : Array Oper} {l : List Oper}
theorem CALLBOX (k : FuncId) (vs : List AV) (r : Nat → AV) (ty : TypeId) (cs : Array Value) (h : (callA ops s l).map (fun x => (x.1, x.2.1, x.2.2.2.2)) = some (k, vs, [])) (hgo : goes P k)
    (hp : ∀ g, (callPN ops s l (s.add (boxE g ty cs)) (r g)).isSome = true) (hr : ∀ g, okB (s.add (boxE g ty cs)) (r g) = true) (hrc : ∀ g n n', (r g).c n = (r g).c n')
    (hcall : ∀ n w, HSat cx n s w → Calls P k (vs.map (AV.c n)).toArray w fun e' w' => ∃ g, w.heap.size ≤ g ∧ e' = .returned ((r g).c n) ∧ Below w.heap.size w w' ∧ w'.heap[g]? = some (.cells cs ty (0, 0)))
    (hK : ∀ g, WPO P cx ops l.tail ((callPN ops s l (s.add (boxE g ty cs)) (r g)).getD s) Q) : WPO P cx ops l s Q := by
  refine CALLX (σ := Nat) k vs (fun g => s.add (boxE g ty cs)) r h hgo hp hr (fun g => More.add s _) (fun g => ⟨rfl, rfl, rfl⟩) (fun n w hh => (hcall n w hh).mono fun e' w' ⟨g, h1, h2, h3, h4⟩ => ⟨g, upd n s.nx .nilFunc, upd_lt n s.nx _, by rw [h2, hrc g n], ?_⟩) hK
  exact hh.add h3 rfl ⟨h4, fun g' hg' => by cases hg'; exact hh.fr.news g (Nat.le_trans hh.fr.size h1), fun w1 w2 h hw => (hw g rfl).trans h⟩ trivial (fun g' hg' => by cases hg'; exact (Array.getElem?_eq_some_iff.1 h4).1) (fun g' hg' => by cases hg'; exact .inl h1)
theorem CALLSL (k : FuncId) (vs : List AV) (r : Value → AV) (sz : Nat) {α : Type} (li : List α) (enc : α → List Value) (z : α) (hsz : 0 < sz) (h : (callA ops s l).map (fun x => (x.1, x.2.1, x.2.2.2.2)) = some (k, vs, [])) (hgo : goes P k)
    (hp : ∀ v, (callPN ops s l (s.add (slE v sz li enc z)) (r v)).isSome = true) (hr : ∀ v, okB (s.add (slE v sz li enc z)) (r v) = true) (hrc : ∀ v n n', (r v).c n = (r v).c n')
    (hcall : ∀ n w, HSat cx n s w → Calls P k (vs.map (AV.c n)).toArray w fun e' w' => ∃ v, e' = .returned ((r v).c n) ∧ Below w.heap.size w w' ∧ Reads w' v sz li enc z ∧ (∀ g, vblk v = some g → w.heap.size ≤ g ∧ g < w'.heap.size))
    (hK : ∀ v, WPO P cx ops l.tail ((callPN ops s l (s.add (slE v sz li enc z)) (r v)).getD s) Q) : WPO P cx ops l s Q := by
  refine CALLX (σ := Value) k vs (fun v => s.add (slE v sz li enc z)) r h hgo hp hr (fun g => More.add s _) (fun g => ⟨rfl, rfl, rfl⟩) (fun n w hh => (hcall n w hh).mono fun e' w' ⟨v, h2, h3, h4, h5⟩ => ⟨v, upd n s.nx .nilFunc, upd_lt n s.nx _, by rw [h2, hrc v n], ?_⟩) hK
  exact hh.add h3 rfl ⟨h4, fun g' hg' => hh.fr.news g' (Nat.le_trans hh.fr.size (h5 g' hg').1), fun w1 w2 h hw => h.stab hw⟩ trivial (fun g' hg' => (h5 g' hg').2) (fun g' hg' => .inl (h5 g' hg').1)
theorem slE_lt {n0 n : Vn} {w0 w : World} {m : Nat} (h : HSat (cx0 w0 n0 m) n s w) {id : Nat} {v : Value} {sz : Nat} {α : Type} {li : List α} {enc : α → List Value} {z : α} (hf : fnd s.hp id = some (slE v sz li enc z)) : Reads w v sz li enc z ∧ ∀ g, vblk v = some g → w0.heap.size ≤ g ∧ g < w.heap.size :=
  ⟨(h.ents _ (fnd_mem hf)).1, fun g hg => ⟨(h.ents _ (fnd_mem hf)).2.1 g hg, h.lt _ (fnd_mem hf) g hg⟩⟩
end
end Go.Proofs.YtamimgmoomcipaaDoor.Eng
namespace Go.Proofs.YtamimgmoomcipaaDoor.Fw
open Go Go.RowKit Go.Proofs.YtamimgmoomcipaaDoor.Eng 
set_option linter.unusedVariables false
set_option linter.unusedSimpArgs false
theorem HSat_bookS {w : World} {sv gv cv : Value} {b : Book} {but : List Int} {maps : List Nat} {gb : Nat} {frm : Int} (hb : BookAt w sv gv b) (h : CanAt w cv b but maps) (ha : AsksAt w) (hg : w.heap[gb]? = some (.cells #[iv frm] 3 (0, 0))) {nt : Nat} {e : List (Nat × List (Nat × Bool) × AV)} : HSat (cx0 w (vn [sv, gv, cv]) 3) (vn [sv, gv, cv]) ⟨nt, e, hpB b ++ [(2, .sl .ro 100 1 maps encM 0), (3, pfK b but maps), (4, .pf AsksAt (· = 0)), (5, .pf (fun w => w.heap[gb]? = some (.cells #[iv frm] 3 (0, 0))) (· = gb))], 6, []⟩ w :=
  HSat_args (vn_one (by simp [hb.ships.one, hb.sights.one, h.reads.one])) (by decide) ⟨⟨⟨fun _ => rfl, by decide, hb.ships⟩, (Nat.le_of_ble_eq_true rfl)⟩, ⟨⟨fun _ => rfl, by decide, hb.sights⟩, (Nat.le_of_ble_eq_true rfl)⟩, ⟨⟨fun _ => rfl, by decide, h.reads⟩, (Nat.le_of_ble_eq_true rfl)⟩, ⟨⟨⟨h.len, h.at'⟩, fun w1 w2 h1 hw => CanF.stab _ _ _ h1 hw, fun g hg => by
    obtain ⟨q, hq, rfl⟩ := List.mem_iff_getElem.1 hg
    exact (Array.getElem?_eq_some_iff.1 (h.at' q hq)).1⟩, (Nat.le_of_ble_eq_true rfl)⟩, ⟨⟨ha, fun w1 w2 h1 hw => (hw 0 rfl).trans h1, fun g hg => by cases hg; exact (Array.getElem?_eq_some_iff.1 ha).1⟩, (Nat.le_of_ble_eq_true rfl)⟩, ⟨⟨hg, fun w1 w2 h1 hw => (hw gb rfl).trans h1, fun g hg2 => by cases hg2; exact (Array.getElem?_eq_some_iff.1 hg).1⟩, (Nat.le_of_ble_eq_true rfl)⟩, trivial⟩
def sureF (b : Book) (but : List Int) (frm : Int) (minute : Int) : Bool :=
  (decide (minute ≥ frm)) && ((clearF b but minute) == 2)
theorem sureF_calls (sv gv cv : Value) (b : Book) (but : List Int) (maps : List Nat) (gb : Nat) (frm : Int) (minute : Int) (w : World) (hb : BookAt w sv gv b) (hm : CanAt w cv b but maps) (ha : AsksAt w) (hgb : w.heap[gb]? = some (.cells #[iv frm] 3 (0, 0))) (hv : Valid b) (hmi : 0 ≤ minute ∧ minute ≤ 60) : Calls Tryd.prog 109 #[bookV2 sv gv cv b, iv minute, .pointer (some ⟨gb, 0, none⟩)] w fun e w' => e = .returned (.bool (sureF b but frm minute)) ∧ Below w.heap.size w w' := by
  refine calls_of_WP (cx := cx0 w (vn [sv, gv, cv]) 3) (n := vn [sv, gv, cv]) (vs := [.g (bookC b), .s (.int .i64 minute), .s (.v (.pointer (some ⟨gb, 0, none⟩)))]) (hp := hpB b ++ [(2, .sl .ro 100 1 maps encM 0), (3, pfK b but maps), (4, .pf AsksAt (· = 0)), (5, .pf (fun w => w.heap[gb]? = some (.cells #[iv frm] 3 (0, 0))) (· = gb))]) (nx := 6) tt_ok Tryd.func109 rfl rfl rfl (by kernel_rfl) (HSat_bookS hb hm ha hgb) (vsOk (by kernel_rfl)) ?_
  refine WP_seq (WP_region (WPO_all tt_ok (by kernel_rfl) ?_))
  refine WP_seq (WP_region (WPO_run tt_ok 1 (by kernel_rfl) ?_))
  refine LDG tt_ok 3 gb (some 7) [.int .i64 frm] 3 (.s (.int .i64 frm)) (by kernel_rfl) (by kernel_rfl) (by kernel_rfl) (fun n w h => (h.ents (5, .pf (fun w => w.heap[gb]? = some (.cells #[iv frm] 3 (0, 0))) (· = gb)) (fnd_mem (by kernel_rfl))).1) (by kernel_rfl) ?_
  refine WPO_run tt_ok 4 (by kernel_rfl) ?_
  refine CALL 79 [.g [.ref 0, .int .i64 b.hear.lo, .int .i64 b.hear.hi, .int .i64 b.br, .int .i64 b.cr, .int .i64 b.sl, .ref 1, .ref 2], .s (.int .i64 minute)] (.s (.int .i64 (clearF b but minute))) [(decide (minute ≥ frm), true)] (by kernel_rfl) (goes_of (by kernel_rfl)) (by kernel_rfl) (by kernel_rfl) (fun _ nV w h => clearF_calls (nV 0) (nV 1) (nV 2) b but maps minute w ⟨h.reads (id := 0) (kd := .ro) (e := 65) (by kernel_rfl), h.reads (id := 1) (kd := .ro) (e := 70) (by kernel_rfl)⟩ (HSat_toK 2 3 .ro h (by kernel_rfl) (by kernel_rfl)) (h.ents (4, .pf AsksAt (· = 0)) (fnd_mem (by kernel_rfl))).1 (by first | assumption | omega | (constructor <;> omega) | (refine ⟨?_, ?_, ?_⟩ <;> omega)) (by first | assumption | omega | (constructor <;> omega) | (refine ⟨?_, ?_, ?_⟩ <;> omega))) ?_
  refine WPO_all tt_ok (by kernel_rfl) ?_
  refine WP_ret ?_
  exact ⟨.s (.bool ((decide (minute ≥ frm)) && ((clearF b but minute) == 2))), by kernel_rfl, fun nV w' h => ⟨by rw [show sureF b but frm minute = ((decide (minute ≥ frm)) && ((clearF b but minute) == 2)) from rfl]; rfl, h.bel⟩⟩
def foundF_c1 (b : Book) (but : List Int) (frm : Int) (k1 : Nat) : (List Int) → Bool := fun v1_1 => decide ((k1 : Int) < 61)
def foundF_b1 (b : Book) (but : List Int) (frm : Int) (k1 : Nat) : (List Int) → Bd (List Int) (List Int) := fun v1_1 => (bif sureF b but frm (k1 : Int) then .go (v1_1 ++ ([(k1 : Int)])) else .go v1_1)
def foundF (b : Book) (but : List Int) (frm : Int) : (List Int) :=
  (match loopR (foundF_c1 b but frm) (foundF_b1 b but frm) 61 0 ([]) with | .brk u1_0 => u1_0 | .ret r => r)
theorem foundF_calls (sv gv cv : Value) (b : Book) (but : List Int) (maps : List Nat) (gb : Nat) (frm : Int) (w : World) (hb : BookAt w sv gv b) (hm : CanAt w cv b but maps) (ha : AsksAt w) (hgb : w.heap[gb]? = some (.cells #[iv frm] 3 (0, 0))) (hv : Valid b) : Calls Tryd.prog 82 #[bookV2 sv gv cv b, .agg #[.func (.func 109) #[] #[.pointer (some ⟨gb, 0, none⟩)]]] w fun e w' => ∃ v0, e = .returned (v0) ∧ Below w.heap.size w w' ∧ Reads w' v0 1 (foundF b but frm) encI 0 ∧ (∀ g, vblk v0 = some g → w.heap.size ≤ g ∧ g < w'.heap.size) := by
  refine calls_of_WP (cx := cx0 w (vn [sv, gv, cv]) 3) (n := vn [sv, gv, cv]) (vs := [.g (bookC b), .g [.v (.func (.func 109) #[] #[.pointer (some ⟨gb, 0, none⟩)])]]) (hp := hpB b ++ [(2, .sl .ro 100 1 maps encM 0), (3, pfK b but maps), (4, .pf AsksAt (· = 0)), (5, .pf (fun w => w.heap[gb]? = some (.cells #[iv frm] 3 (0, 0))) (· = gb))]) (nx := 6) tt_ok Tryd.func82 rfl rfl rfl (by kernel_rfl) (HSat_bookS hb hm ha hgb) (vsOk (by kernel_rfl)) ?_
  refine WP_seq (WP_region (WPO_all tt_ok (by kernel_rfl) ?_))
  refine WP_seq (WP_region (WPO_all tt_ok (by kernel_rfl) ?_))
  refine WP_seq (WP_seq (WP_region (WPO_all tt_ok (by kernel_rfl) ?_)))
  refine WP_loopA (ρ := (List Int)) (foundF_c1 b but frm) (foundF_b1 b but frm) 61 ([]) (fun k : Nat => (k : Int)) (fun (ci : Int) (zz : (List Int)) => ⟨26, [(7, [], .s (.int .i64 ci)), (5, [], .s (.ref 8)), (3, [], .s (.p 7 0)), (2, [], .s (.p 6 0))], [(8, .sl .own 3 1 zz encI 0), (7, .box 113 [.v (.func (.func 109) #[] #[.pointer (some ⟨gb, 0, none⟩)])]), (6, .box 94 [.ref 0, .int .i64 b.hear.lo, .int .i64 b.hear.hi, .int .i64 b.br, .int .i64 b.cr, .int .i64 b.sl, .ref 1, .ref 2]), (0, .sl .ro 65 5 b.ships encShip zShip), (1, .sl .ro 70 4 b.sights encSight zSight), (2, .sl .ro 100 1 maps encM 0), (3, pfK b but maps), (4, .pf AsksAt (· = 0)), (5, .pf (fun w => w.heap[gb]? = some (.cells #[iv frm] 3 (0, 0))) (· = gb))], 9, []⟩) (fun zz : (List Int) => ⟨26, [(5, [], .s (.ref 8))], [(8, .sl .own 3 1 zz encI 0), (7, .box 113 [.v (.func (.func 109) #[] #[.pointer (some ⟨gb, 0, none⟩)])]), (6, .box 94 [.ref 0, .int .i64 b.hear.lo, .int .i64 b.hear.hi, .int .i64 b.br, .int .i64 b.cr, .int .i64 b.sl, .ref 1, .ref 2]), (0, .sl .ro 65 5 b.ships encShip zShip), (1, .sl .ro 70 4 b.sights encSight zSight), (2, .sl .ro 100 1 maps encM 0), (3, pfK b but maps), (4, .pf AsksAt (· = 0)), (5, .pf (fun w => w.heap[gb]? = some (.cells #[iv frm] 3 (0, 0))) (· = gb))], 9, []⟩) (fun (k1 : Nat) (zz : (List Int)) => zz.length ≤ k1) (by simp) ⟨0, rfl, Le.trans (Le_nilT [5] 3 1 encI 0 (fun _ => rfl)) (Le_sel (ts := [7, 5, 3, 2]) (ids := [8, 7, 6, 0, 1, 2, 3, 4, 5]) (nx := 9) (by kernel_rfl))⟩ ?_ ?_
  · intro k1 v1_1 hn1 hp1 hi1 Q1 hq1 ho1
    replace hp1 : v1_1.length ≤ k1 := hp1
    refine WP_seq (WP_region (WPO_all tt_ok (by kernel_rfl) ?_))
    refine WP_seq (WP_cond (decide ((k1 : Int) < 61)) (by kernel_rfl) (fun hc1 => ?_) (fun hc1 => ?_))
    rotate_left
    · refine WP_exit ?_
      show Q1 (.exit 0) _
      exact LA_exit hq1 v1_1 (loopR_end hi1 hc1) ⟨k1, hn1, hp1⟩ (Le_sel (ts := [5]) (ids := [8, 7, 6, 0, 1, 2, 3, 4, 5]) (nx := 9) (by kernel_rfl))
    have hc1' := of_decide_eq_true hc1
    have hk1 : k1 < 61 := by omega
    refine WP_skip ?_
    refine WP_seq (WP_block ?_)
    refine WP_seq (WP_region (WPO_all tt_ok (by kernel_rfl) ?_))
    refine WP_seq (WP_region (WPO_run tt_ok 4 (by kernel_rfl) ?_))
    refine CALL 109 [.g [.ref 0, .int .i64 b.hear.lo, .int .i64 b.hear.hi, .int .i64 b.br, .int .i64 b.cr, .int .i64 b.sl, .ref 1, .ref 2], .s (.int .i64 (k1 : Int)), .s (.v (.pointer (some ⟨gb, 0, none⟩)))] (.s (.bool (sureF b but frm (k1 : Int)))) [] (by kernel_rfl) (goes_of (by kernel_rfl)) (by kernel_rfl) (by kernel_rfl) (fun _ nV w h => sureF_calls (nV 0) (nV 1) (nV 2) b but maps gb frm (k1 : Int) w ⟨h.reads (id := 0) (kd := .ro) (e := 65) (by kernel_rfl), h.reads (id := 1) (kd := .ro) (e := 70) (by kernel_rfl)⟩ (HSat_toK 2 3 .ro h (by kernel_rfl) (by kernel_rfl)) (h.ents (4, .pf AsksAt (· = 0)) (fnd_mem (by kernel_rfl))).1 (h.ents (5, .pf (fun w => w.heap[gb]? = some (.cells #[iv frm] 3 (0, 0))) (· = gb)) (fnd_mem (by kernel_rfl))).1 hv (by first | assumption | omega | (constructor <;> omega) | (refine ⟨?_, ?_, ?_⟩ <;> omega))) ?_
    refine WPO_nil ?_
    refine WP_cond (sureF b but frm (k1 : Int)) (by kernel_rfl) (fun hc3 => ?_) (fun hc3 => ?_)
    · refine WP_region (WPO_run tt_ok 2 (by kernel_rfl) ?_)
      refine LIT tt_ok (by kernel_rfl) ?_
      refine LITSL 9 3 1 1 [.int .i64 (k1 : Int)] [(k1 : Int)] encI 0 (by kernel_rfl) rfl (fun _ => rfl) (fun n => rfl) ?_
      refine APP tt_ok (.s (.ref 8)) (.s (.ref 9)) 37 3 (some 18) 1 v1_1 ([(k1 : Int)]) encI 0 (by kernel_rfl) (by kernel_rfl) (by kernel_rfl) (by kernel_rfl) (.inr (.inl ⟨8, rfl, (by kernel_rfl)⟩)) (.inr ⟨9, .own, rfl, (by kernel_rfl), (by simp only [List.length_cons, List.length_nil]; omega)⟩) (by simp) (fun y => rfl) (fun y => List.all_eq_true.1 rfl) (fun i hi => (by have hby : (tyL tt 3).map (·.bytes) = some 8 := (by kernel_rfl); rw [hi] at hby; simp only [Option.map_some, Option.some.injEq] at hby; rw [hby]; simp only [List.length_append, List.length_cons, List.length_nil]; omega)) ?_
      refine WPO_all tt_ok (by kernel_rfl) ?_
      refine WP_region (WPO_all tt_ok (by kernel_rfl) ?_)
      show Q1 .normal _
      exact LA_go hq1 (ci := IntKind.i64.wrap ((k1 : Int) + 1)) (v1_1 ++ ([(k1 : Int)])) hk1 (by show _ = ((k1 + 1 : Nat) : Int); rw [wrapI (by omega) (by omega)]; omega) (loopR_go hi1 hk1 hc1 (by unfold foundF_b1; simp only [hc3, cond_true, cond_false])) (by simp only [List.length_append, List.length_cons, List.length_nil]; omega) (Le_ren [(8, 10)] ⟨by kernel_rfl, by kernel_rfl, by kernel_rfl, by kernel_rfl, by kernel_rfl, by kernel_rfl, by kernel_rfl, by kernel_rfl, by kernel_rfl, trivial⟩ ⟨by kernel_rfl, rfl, by kernel_rfl, by kernel_rfl, rfl, by kernel_rfl, by kernel_rfl, rfl, by kernel_rfl, by kernel_rfl, rfl, by kernel_rfl, trivial⟩ (by kernel_rfl) (by kernel_rfl) (rnm_id (m := 3) (by kernel_rfl)) (by show 3 ≤ 9; decide) (by kernel_rfl) (by kernel_rfl))
    refine WP_skip ?_
    refine WP_region (WPO_all tt_ok (by kernel_rfl) ?_)
    show Q1 .normal _
    exact LA_go hq1 (ci := IntKind.i64.wrap ((k1 : Int) + 1)) v1_1 hk1 (by show _ = ((k1 + 1 : Nat) : Int); rw [wrapI (by omega) (by omega)]; omega) (loopR_go hi1 hk1 hc1 (by unfold foundF_b1; simp only [hc3, cond_true, cond_false])) (by omega) (Le_sel (ts := [7, 5, 3, 2]) (ids := [8, 7, 6, 0, 1, 2, 3, 4, 5]) (nx := 9) (by kernel_rfl))
  intro u1_0 hR1 hP1 s' hl
  obtain ⟨kP1, hkP1, hpP1⟩ := hP1
  replace hpP1 : u1_0.length ≤ kP1 := hpP1
  refine WP_le hl ?_
  clear hl s'
  refine WP_seq (WP_region (WPO_run tt_ok 5 (by kernel_rfl) ?_))
  refine SLCF tt_ok 8 3 1 u1_0 encI 0 (some 25) (by kernel_rfl) (by kernel_rfl) (fun _ => (by kernel_rfl)) (fun sv1 => ?_)
  refine WPO_all tt_ok (by kernel_rfl) ?_
  refine WP_ret ?_
  exact ⟨.s (.v sv1), by kernel_rfl, fun nV w' h => ⟨sv1, rfl, h.bel, by rw [show foundF b but frm = u1_0 from by unfold foundF; simp only [hR1, cond_true, cond_false]]; exact (slE_lt (id := 9) (v := sv1) (sz := 1) (li := u1_0) (enc := encI) (z := 0) h (by kernel_rfl)).1, (slE_lt (id := 9) (v := sv1) (sz := 1) (li := u1_0) (enc := encI) (z := 0) h (by kernel_rfl)).2⟩⟩
end Go.Proofs.YtamimgmoomcipaaDoor.Fw
namespace Go.Proofs.YtamimgmoomcipaaDoor.Fw
open Go Go.RowKit Go.Proofs.YtamimgmoomcipaaDoor.Eng 
set_option linter.unusedVariables false
set_option linter.unusedSimpArgs false
theorem sure_calls (x : Int) (w : World) : Calls Tryd.prog 83 #[iv x] w fun e w' => ∃ g, w.heap.size ≤ g ∧ e = .returned (.agg #[.func (.func 109) #[] #[.pointer (some ⟨g, 0, none⟩)]]) ∧ Below w.heap.size w w' ∧ w'.heap[g]? = some (.cells #[iv x] 3 (0, 0)) := by
  refine calls_of_WP (cx := cx0 w Eng.n0 0) (n := Eng.n0) (vs := [.s (.int .i64 x)]) (hp := []) (nx := 0) tt_ok Tryd.func83 rfl rfl rfl (by kernel_rfl) (HSat0 _ _ _ _ _ _ (fun _ => rfl) (Nat.le_refl _)) (vsOk (by kernel_rfl)) ?_
  refine WP_seq (WP_region (WPO_all tt_ok (by kernel_rfl) ?_))
  refine WP_seq (WP_region (WPO_all tt_ok (by kernel_rfl) ?_))
  refine WP_ret ?_
  exact ⟨.g [.ref 2], by kernel_rfl, fun nV w' h => by
    obtain ⟨g, h1, h2, h3⟩ := h.ents (0, .box 3 [.int .i64 x]) (fnd_mem (by kernel_rfl))
    have h4 := h.ents (2, .clo 109 [] [.s (.p 0 0)]) (fnd_mem (by kernel_rfl))
    refine ⟨g, h2, ?_, h.bel, h3⟩
    simp only at h1 h4
    show Ending.returned (.agg #[nV 2]) = _
    rw [h4]
    simp [AV.c, AC.c, ptrAt, h1]⟩
def nextA (b : Book) (frm : Int) : Int × Int :=
  (bif (checkW b == 0) && (withinF frm 0 60) then (bif (askT b) != 0 then (0, askT b) else (bif ((foundF b ([]) frm).length : Int) == 0 then (0, 4) else (((foundF b ([]) frm).getD 0 0), 0))) else (bif (askN b) != 0 then (0, askN b) else (0, askN b)))
theorem nextA_calls (g0 g1 : Value) (b : Book) (frm : Int) (w : World) (r0 : Reads w g0 5 b.ships encShip zShip) (r1 : Reads w g1 4 b.sights encSight zSight) (ha : AsksAt w) : Calls Tryd.prog 42 #[.agg #[g0, iv b.hear.lo, iv b.hear.hi, iv b.br, iv b.cr, iv b.sl, g1], iv frm] w fun e w' => e = .returned (.tuple #[iv (nextA b frm).1, iv (nextA b frm).2]) ∧ Below w.heap.size w w' := by
  cases hq : ((checkW b == 0) && (withinF frm 0 60))
  · refine calls_of_WP (cx := cx0 w (vn [g0, g1]) 2) (n := vn [g0, g1]) (vs := [.g [.ref 0, .int .i64 b.hear.lo, .int .i64 b.hear.hi, .int .i64 b.br, .int .i64 b.cr, .int .i64 b.sl, .ref 1], .s (.int .i64 frm)]) (hp := [(0, .sl .ro 65 5 b.ships encShip zShip), (1, .sl .ro 70 4 b.sights encSight zSight), (2, .pf AsksAt (· = 0))]) (nx := 3) tt_ok Tryd.func42 rfl rfl rfl (by kernel_rfl) (HSat_args (vn_one (by simp [r0.one, r1.one])) (by decide) ⟨⟨⟨fun _ => rfl, by decide, r0⟩, (Nat.le_of_ble_eq_true rfl)⟩, ⟨⟨fun _ => rfl, by decide, r1⟩, (Nat.le_of_ble_eq_true rfl)⟩, ⟨⟨ha, fun w1 w2 h1 hw => (hw 0 rfl).trans h1, fun g hg => by cases hg; exact (Array.getElem?_eq_some_iff.1 ha).1⟩, (Nat.le_of_ble_eq_true rfl)⟩, trivial⟩) (vsOk (by kernel_rfl)) ?_
    have hl0 := Reads.len r0
    have hl1 := Reads.len r1
    refine WP_seq (WP_region (WPO_all tt_ok (by kernel_rfl) ?_))
    refine WP_seq (WP_toX (σ := Unit) (fun _ => ⟨29, [(7, [], .s (.int .i64 (askN b))), (6, [], .s (.p 4 0)), (1, [], .s (.int .i64 frm))], [(4, .box 94 [.v (.slice none 0 0), .int .i64 0, .int .i64 0, .int .i64 0, .int .i64 0, .int .i64 0, .v (.slice none 0 0), .v (.slice none 0 0)]), (3, .box 27 [.ref 0, .int .i64 b.hear.lo, .int .i64 b.hear.hi, .int .i64 b.br, .int .i64 b.cr, .int .i64 b.sl, .ref 1]), (0, .sl .ro 65 5 b.ships encShip zShip), (1, .sl .ro 70 4 b.sights encSight zSight), (2, .pf AsksAt (· = 0))], 5, []⟩) ?_ ?_)
    · refine WP_drawH [] (by kernel_rfl) (by kernel_rfl) ?_
      refine H_run tt_ok [0, 1] (f' := 8) (by kernel_rfl) (by kernel_rfl) (by kernel_rfl) ?_
      refine H_two 2 7 (by kernel_rfl) (by kernel_rfl) (by kernel_rfl) (fun hfz cx' hx1 hx2 => ?_) (fun hfz cx' hx1 hx2 => ?_)
      · refine CALL 78 [.s (.int .i64 frm)] (.s (.bool (withinF frm 0 60))) [] (by kernel_rfl) (goes_of (by kernel_rfl)) (by kernel_rfl) (by kernel_rfl) (fun _ _ w _ => isBegin_calls _ w) ?_
        refine WPO_end (by kernel_rfl) ⟨rfl, (hfz.fnds [3, 0, 1, 2] (by kernel_rfl) ⟨by kernel_rfl, by kernel_rfl, by kernel_rfl, by kernel_rfl, trivial⟩ (by kernel_rfl)), ?_⟩
        refine H_two 3 7 (by kernel_rfl) (by kernel_rfl) (by kernel_rfl) (fun hfz cx' hx1 hx2 => ?_) (fun hfz cx' hx1 hx2 => ?_)
        · refine CALL 76 [.g [.ref 0, .int .i64 b.hear.lo, .int .i64 b.hear.hi, .int .i64 b.br, .int .i64 b.cr, .int .i64 b.sl, .ref 1], .s (.bool (withinF frm 0 60))] (.t [(true, [.v (.slice none 0 0), .int .i64 0, .int .i64 0, .int .i64 0, .int .i64 0, .int .i64 0, .v (.slice none 0 0), .v (.slice none 0 0)]), (false, [.int .i64 (askN b)])]) [] (by kernel_rfl) (goes_of (by kernel_rfl)) (by kernel_rfl) (by kernel_rfl) (fun _ nV w h => asked_no (nV 0) (nV 1) b _ w ⟨h.reads (id := 0) (kd := .ro) (e := 65) (by kernel_rfl), h.reads (id := 1) (kd := .ro) (e := 70) (by kernel_rfl)⟩ hq) ?_
          refine WPO_end (by kernel_rfl) ⟨rfl, (hfz.fnds [3, 0, 1, 2] (by kernel_rfl) ⟨by kernel_rfl, by kernel_rfl, by kernel_rfl, by kernel_rfl, trivial⟩ (by kernel_rfl)), ?_⟩
          refine H_run tt_ok [4, 5, 6] (f' := 3) (by kernel_rfl) (by kernel_rfl) (by kernel_rfl) ?_
          refine H_step 7 (by kernel_rfl) (by kernel_rfl) (fun hfz cx' hx1 hx2 => ?_)
          refine WPO_all tt_ok (by kernel_rfl) ?_
          refine ⟨rfl, (hfz.fnds [3, 0, 1, 2] (by kernel_rfl) ⟨by kernel_rfl, by kernel_rfl, by kernel_rfl, by kernel_rfl, trivial⟩ (by kernel_rfl)), ?_⟩
          refine H_step 8 (by kernel_rfl) (by kernel_rfl) (fun hfz cx' hx1 hx2 => ?_)
          refine WPO_all tt_ok (by kernel_rfl) ?_
          refine ⟨rfl, (hfz.fnds [3, 0, 1, 2] (by kernel_rfl) ⟨by kernel_rfl, by kernel_rfl, by kernel_rfl, by kernel_rfl, trivial⟩ (by kernel_rfl)), ?_⟩
          refine H_run tt_ok [9] (f' := 0) (by kernel_rfl) (by kernel_rfl) (by kernel_rfl) ?_
          refine H_done (by kernel_rfl) ?_
          exact ⟨(), Le_sel (ts := [7, 6, 1]) (ids := [4, 3, 0, 1, 2]) (nx := 5) (by kernel_rfl)⟩
        · refine WPO_all tt_ok (by kernel_rfl) ?_
          refine ⟨rfl, (hfz.fnds [3, 0, 1, 2] (by kernel_rfl) ⟨by kernel_rfl, by kernel_rfl, by kernel_rfl, by kernel_rfl, trivial⟩ (by kernel_rfl)), ?_⟩
          refine H_step 3 (by kernel_rfl) (by kernel_rfl) (fun hfz cx' hx1 hx2 => ?_)
          refine CALL 76 [.g [.ref 0, .int .i64 b.hear.lo, .int .i64 b.hear.hi, .int .i64 b.br, .int .i64 b.cr, .int .i64 b.sl, .ref 1], .s (.bool (withinF frm 0 60))] (.t [(true, [.v (.slice none 0 0), .int .i64 0, .int .i64 0, .int .i64 0, .int .i64 0, .int .i64 0, .v (.slice none 0 0), .v (.slice none 0 0)]), (false, [.int .i64 (askN b)])]) [] (by kernel_rfl) (goes_of (by kernel_rfl)) (by kernel_rfl) (by kernel_rfl) (fun _ nV w h => asked_no (nV 0) (nV 1) b _ w ⟨h.reads (id := 0) (kd := .ro) (e := 65) (by kernel_rfl), h.reads (id := 1) (kd := .ro) (e := 70) (by kernel_rfl)⟩ hq) ?_
          refine WPO_end (by kernel_rfl) ⟨rfl, (hfz.fnds [3, 0, 1, 2] (by kernel_rfl) ⟨by kernel_rfl, by kernel_rfl, by kernel_rfl, by kernel_rfl, trivial⟩ (by kernel_rfl)), ?_⟩
          refine H_run tt_ok [4, 5, 6] (f' := 2) (by kernel_rfl) (by kernel_rfl) (by kernel_rfl) ?_
          refine H_step 8 (by kernel_rfl) (by kernel_rfl) (fun hfz cx' hx1 hx2 => ?_)
          refine WPO_all tt_ok (by kernel_rfl) ?_
          refine ⟨rfl, (hfz.fnds [3, 0, 1, 2] (by kernel_rfl) ⟨by kernel_rfl, by kernel_rfl, by kernel_rfl, by kernel_rfl, trivial⟩ (by kernel_rfl)), ?_⟩
          refine H_run tt_ok [9] (f' := 0) (by kernel_rfl) (by kernel_rfl) (by kernel_rfl) ?_
          refine H_done (by kernel_rfl) ?_
          exact ⟨(), Le_sel (ts := [7, 6, 1]) (ids := [4, 3, 0, 1, 2]) (nx := 5) (by kernel_rfl)⟩
      · refine WPO_all tt_ok (by kernel_rfl) ?_
        refine ⟨rfl, (hfz.fnds [3, 0, 1, 2] (by kernel_rfl) ⟨by kernel_rfl, by kernel_rfl, by kernel_rfl, by kernel_rfl, trivial⟩ (by kernel_rfl)), ?_⟩
        refine H_step 2 (by kernel_rfl) (by kernel_rfl) (fun hfz cx' hx1 hx2 => ?_)
        refine CALL 78 [.s (.int .i64 frm)] (.s (.bool (withinF frm 0 60))) [] (by kernel_rfl) (goes_of (by kernel_rfl)) (by kernel_rfl) (by kernel_rfl) (fun _ _ w _ => isBegin_calls _ w) ?_
        refine WPO_end (by kernel_rfl) ⟨rfl, (hfz.fnds [3, 0, 1, 2] (by kernel_rfl) ⟨by kernel_rfl, by kernel_rfl, by kernel_rfl, by kernel_rfl, trivial⟩ (by kernel_rfl)), ?_⟩
        refine H_step 3 (by kernel_rfl) (by kernel_rfl) (fun hfz cx' hx1 hx2 => ?_)
        refine CALL 76 [.g [.ref 0, .int .i64 b.hear.lo, .int .i64 b.hear.hi, .int .i64 b.br, .int .i64 b.cr, .int .i64 b.sl, .ref 1], .s (.bool (withinF frm 0 60))] (.t [(true, [.v (.slice none 0 0), .int .i64 0, .int .i64 0, .int .i64 0, .int .i64 0, .int .i64 0, .v (.slice none 0 0), .v (.slice none 0 0)]), (false, [.int .i64 (askN b)])]) [] (by kernel_rfl) (goes_of (by kernel_rfl)) (by kernel_rfl) (by kernel_rfl) (fun _ nV w h => asked_no (nV 0) (nV 1) b _ w ⟨h.reads (id := 0) (kd := .ro) (e := 65) (by kernel_rfl), h.reads (id := 1) (kd := .ro) (e := 70) (by kernel_rfl)⟩ hq) ?_
        refine WPO_end (by kernel_rfl) ⟨rfl, (hfz.fnds [3, 0, 1, 2] (by kernel_rfl) ⟨by kernel_rfl, by kernel_rfl, by kernel_rfl, by kernel_rfl, trivial⟩ (by kernel_rfl)), ?_⟩
        refine H_run tt_ok [4, 5, 6] (f' := 2) (by kernel_rfl) (by kernel_rfl) (by kernel_rfl) ?_
        refine H_step 8 (by kernel_rfl) (by kernel_rfl) (fun hfz cx' hx1 hx2 => ?_)
        refine WPO_all tt_ok (by kernel_rfl) ?_
        refine ⟨rfl, (hfz.fnds [3, 0, 1, 2] (by kernel_rfl) ⟨by kernel_rfl, by kernel_rfl, by kernel_rfl, by kernel_rfl, trivial⟩ (by kernel_rfl)), ?_⟩
        refine H_run tt_ok [9] (f' := 0) (by kernel_rfl) (by kernel_rfl) (by kernel_rfl) ?_
        refine H_done (by kernel_rfl) ?_
        exact ⟨(), Le_sel (ts := [7, 6, 1]) (ids := [4, 3, 0, 1, 2]) (nx := 5) (by kernel_rfl)⟩
    intro _
    refine WP_seq (WP_seq (WP_region (WPO_all tt_ok (by kernel_rfl) ?_)))
    refine WP_cond ((askN b) != 0) (by kernel_rfl) (fun hc1 => ?_) (fun h => by rw [askN_ne b] at h; cases h)
    refine WP_seq (WP_region (WPO_all tt_ok (by kernel_rfl) ?_))
    refine WP_ret ?_
    exact ⟨.t [(false, [.int .i64 0]), (false, [.int .i64 (askN b)])], by kernel_rfl, fun nV w' h => ⟨by rw [show nextA b frm = (0, askN b) from by unfold nextA; simp only [hq, hc1, cond_true, cond_false]]; rfl, h.bel⟩⟩
  · obtain ⟨hq1, hq2⟩ := ask_two hq
    have hv : Valid b := check_valid.1 hq1
    have hbs := hv.nships
    have hbc := hv.cr
    have hbl := hv.sl
    have hw1 := within_one hq2
    refine calls_of_WP (cx := cx0 w (vn [g0, g1]) 2) (n := vn [g0, g1]) (vs := [.g [.ref 0, .int .i64 b.hear.lo, .int .i64 b.hear.hi, .int .i64 b.br, .int .i64 b.cr, .int .i64 b.sl, .ref 1], .s (.int .i64 frm)]) (hp := [(0, .sl .ro 65 5 b.ships encShip zShip), (1, .sl .ro 70 4 b.sights encSight zSight), (2, .pf AsksAt (· = 0))]) (nx := 3) tt_ok Tryd.func42 rfl rfl rfl (by kernel_rfl) (HSat_args (vn_one (by simp [r0.one, r1.one])) (by decide) ⟨⟨⟨fun _ => rfl, by decide, r0⟩, (Nat.le_of_ble_eq_true rfl)⟩, ⟨⟨fun _ => rfl, by decide, r1⟩, (Nat.le_of_ble_eq_true rfl)⟩, ⟨⟨ha, fun w1 w2 h1 hw => (hw 0 rfl).trans h1, fun g hg => by cases hg; exact (Array.getElem?_eq_some_iff.1 ha).1⟩, (Nat.le_of_ble_eq_true rfl)⟩, trivial⟩) (vsOk (by kernel_rfl)) ?_
    have hl0 := Reads.len r0
    have hl1 := Reads.len r1
    refine WP_seq (WP_region (WPO_all tt_ok (by kernel_rfl) ?_))
    refine WP_seq (WP_toX (σ := List Nat) (fun mp42 => ⟨29, [(7, [], .s (.int .i64 (askT b))), (6, [], .s (.p 6 0)), (1, [], .s (.int .i64 frm))], [(6, .box 94 [.ref 0, .int .i64 b.hear.lo, .int .i64 b.hear.hi, .int .i64 b.br, .int .i64 b.cr, .int .i64 b.sl, .ref 1, .ref 4]), (5, pfK b [] mp42), (4, .sl .own 100 1 mp42 encM 0), (3, .box 27 [.ref 0, .int .i64 b.hear.lo, .int .i64 b.hear.hi, .int .i64 b.br, .int .i64 b.cr, .int .i64 b.sl, .ref 1]), (0, .sl .ro 65 5 b.ships encShip zShip), (1, .sl .ro 70 4 b.sights encSight zSight), (2, .pf AsksAt (· = 0))], 7, []⟩) ?_ ?_)
    · refine WP_drawH [] (by kernel_rfl) (by kernel_rfl) ?_
      refine H_run tt_ok [0, 1] (f' := 8) (by kernel_rfl) (by kernel_rfl) (by kernel_rfl) ?_
      refine H_two 2 7 (by kernel_rfl) (by kernel_rfl) (by kernel_rfl) (fun hfz cx' hx1 hx2 => ?_) (fun hfz cx' hx1 hx2 => ?_)
      · refine CALL 78 [.s (.int .i64 frm)] (.s (.bool (withinF frm 0 60))) [] (by kernel_rfl) (goes_of (by kernel_rfl)) (by kernel_rfl) (by kernel_rfl) (fun _ _ w _ => isBegin_calls _ w) ?_
        refine WPO_end (by kernel_rfl) ⟨rfl, (hfz.fnds [3, 0, 1, 2] (by kernel_rfl) ⟨by kernel_rfl, by kernel_rfl, by kernel_rfl, by kernel_rfl, trivial⟩ (by kernel_rfl)), ?_⟩
        refine H_two 3 7 (by kernel_rfl) (by kernel_rfl) (by kernel_rfl) (fun hfz cx' hx1 hx2 => ?_) (fun hfz cx' hx1 hx2 => ?_)
        · refine CALLMAPS 76 [.g [.ref 0, .int .i64 b.hear.lo, .int .i64 b.hear.hi, .int .i64 b.br, .int .i64 b.cr, .int .i64 b.sl, .ref 1], .s (.bool (withinF frm 0 60))] (.t [(true, [.ref 0, .int .i64 b.hear.lo, .int .i64 b.hear.hi, .int .i64 b.br, .int .i64 b.cr, .int .i64 b.sl, .ref 1, .ref 4]), (false, [.int .i64 (askT b)])]) 100 encM (CanF b []) 4 (by kernel_rfl) (by kernel_rfl) (by kernel_rfl) (goes_of (by kernel_rfl)) (fun _ => (by kernel_rfl)) (fun _ => (by kernel_rfl)) (fun _ => rfl) (fun m w1 w2 h1 h2 => CanF.stab m w1 w2 h1 h2) (fun m w h1 => CanF.maps m w h1) (fun nV w h => asked_yes (nV 0) (nV 1) b _ w ⟨h.reads (id := 0) (kd := .ro) (e := 65) (by kernel_rfl), h.reads (id := 1) (kd := .ro) (e := 70) (by kernel_rfl)⟩ hq1 hq2) (fun mp46 => ?_)
          refine WPO_end (by kernel_rfl) ⟨rfl, (hfz.fnds [3, 0, 1, 2] (by kernel_rfl) ⟨by kernel_rfl, by kernel_rfl, by kernel_rfl, by kernel_rfl, trivial⟩ (by kernel_rfl)), ?_⟩
          refine H_run tt_ok [4, 5, 6] (f' := 3) (by kernel_rfl) (by kernel_rfl) (by kernel_rfl) ?_
          refine H_step 7 (by kernel_rfl) (by kernel_rfl) (fun hfz cx' hx1 hx2 => ?_)
          refine WPO_all tt_ok (by kernel_rfl) ?_
          refine ⟨rfl, (hfz.fnds [3, 0, 1, 2] (by kernel_rfl) ⟨by kernel_rfl, by kernel_rfl, by kernel_rfl, by kernel_rfl, trivial⟩ (by kernel_rfl)), ?_⟩
          refine H_step 8 (by kernel_rfl) (by kernel_rfl) (fun hfz cx' hx1 hx2 => ?_)
          refine WPO_all tt_ok (by kernel_rfl) ?_
          refine ⟨rfl, (hfz.fnds [3, 0, 1, 2] (by kernel_rfl) ⟨by kernel_rfl, by kernel_rfl, by kernel_rfl, by kernel_rfl, trivial⟩ (by kernel_rfl)), ?_⟩
          refine H_run tt_ok [9] (f' := 0) (by kernel_rfl) (by kernel_rfl) (by kernel_rfl) ?_
          refine H_done (by kernel_rfl) ?_
          exact ⟨mp46, Le_sel (ts := [7, 6, 1]) (ids := [6, 5, 4, 3, 0, 1, 2]) (nx := 7) (by kernel_rfl)⟩
        · refine WPO_all tt_ok (by kernel_rfl) ?_
          refine ⟨rfl, (hfz.fnds [3, 0, 1, 2] (by kernel_rfl) ⟨by kernel_rfl, by kernel_rfl, by kernel_rfl, by kernel_rfl, trivial⟩ (by kernel_rfl)), ?_⟩
          refine H_step 3 (by kernel_rfl) (by kernel_rfl) (fun hfz cx' hx1 hx2 => ?_)
          refine CALLMAPS 76 [.g [.ref 0, .int .i64 b.hear.lo, .int .i64 b.hear.hi, .int .i64 b.br, .int .i64 b.cr, .int .i64 b.sl, .ref 1], .s (.bool (withinF frm 0 60))] (.t [(true, [.ref 0, .int .i64 b.hear.lo, .int .i64 b.hear.hi, .int .i64 b.br, .int .i64 b.cr, .int .i64 b.sl, .ref 1, .ref 5]), (false, [.int .i64 (askT b)])]) 100 encM (CanF b []) 5 (by kernel_rfl) (by kernel_rfl) (by kernel_rfl) (goes_of (by kernel_rfl)) (fun _ => (by kernel_rfl)) (fun _ => (by kernel_rfl)) (fun _ => rfl) (fun m w1 w2 h1 h2 => CanF.stab m w1 w2 h1 h2) (fun m w h1 => CanF.maps m w h1) (fun nV w h => asked_yes (nV 0) (nV 1) b _ w ⟨h.reads (id := 0) (kd := .ro) (e := 65) (by kernel_rfl), h.reads (id := 1) (kd := .ro) (e := 70) (by kernel_rfl)⟩ hq1 hq2) (fun mp47 => ?_)
          refine WPO_end (by kernel_rfl) ⟨rfl, (hfz.fnds [3, 0, 1, 2] (by kernel_rfl) ⟨by kernel_rfl, by kernel_rfl, by kernel_rfl, by kernel_rfl, trivial⟩ (by kernel_rfl)), ?_⟩
          refine H_run tt_ok [4, 5, 6] (f' := 2) (by kernel_rfl) (by kernel_rfl) (by kernel_rfl) ?_
          refine H_step 8 (by kernel_rfl) (by kernel_rfl) (fun hfz cx' hx1 hx2 => ?_)
          refine WPO_all tt_ok (by kernel_rfl) ?_
          refine ⟨rfl, (hfz.fnds [3, 0, 1, 2] (by kernel_rfl) ⟨by kernel_rfl, by kernel_rfl, by kernel_rfl, by kernel_rfl, trivial⟩ (by kernel_rfl)), ?_⟩
          refine H_run tt_ok [9] (f' := 0) (by kernel_rfl) (by kernel_rfl) (by kernel_rfl) ?_
          refine H_done (by kernel_rfl) ?_
          exact ⟨mp47, Le_ren [(6, 4), (5, 6), (4, 5)] ⟨by kernel_rfl, by kernel_rfl, by kernel_rfl, by kernel_rfl, by kernel_rfl, by kernel_rfl, by kernel_rfl, trivial⟩ ⟨by kernel_rfl, rfl, by kernel_rfl, by kernel_rfl, rfl, by kernel_rfl, by kernel_rfl, rfl, by kernel_rfl, trivial⟩ (by kernel_rfl) (by kernel_rfl) (rnm_id (m := 2) (by kernel_rfl)) (by show 2 ≤ 7; decide) (by kernel_rfl) (by kernel_rfl)⟩
      · refine WPO_all tt_ok (by kernel_rfl) ?_
        refine ⟨rfl, (hfz.fnds [3, 0, 1, 2] (by kernel_rfl) ⟨by kernel_rfl, by kernel_rfl, by kernel_rfl, by kernel_rfl, trivial⟩ (by kernel_rfl)), ?_⟩
        refine H_step 2 (by kernel_rfl) (by kernel_rfl) (fun hfz cx' hx1 hx2 => ?_)
        refine CALL 78 [.s (.int .i64 frm)] (.s (.bool (withinF frm 0 60))) [] (by kernel_rfl) (goes_of (by kernel_rfl)) (by kernel_rfl) (by kernel_rfl) (fun _ _ w _ => isBegin_calls _ w) ?_
        refine WPO_end (by kernel_rfl) ⟨rfl, (hfz.fnds [3, 0, 1, 2] (by kernel_rfl) ⟨by kernel_rfl, by kernel_rfl, by kernel_rfl, by kernel_rfl, trivial⟩ (by kernel_rfl)), ?_⟩
        refine H_step 3 (by kernel_rfl) (by kernel_rfl) (fun hfz cx' hx1 hx2 => ?_)
        refine CALLMAPS 76 [.g [.ref 0, .int .i64 b.hear.lo, .int .i64 b.hear.hi, .int .i64 b.br, .int .i64 b.cr, .int .i64 b.sl, .ref 1], .s (.bool (withinF frm 0 60))] (.t [(true, [.ref 0, .int .i64 b.hear.lo, .int .i64 b.hear.hi, .int .i64 b.br, .int .i64 b.cr, .int .i64 b.sl, .ref 1, .ref 5]), (false, [.int .i64 (askT b)])]) 100 encM (CanF b []) 5 (by kernel_rfl) (by kernel_rfl) (by kernel_rfl) (goes_of (by kernel_rfl)) (fun _ => (by kernel_rfl)) (fun _ => (by kernel_rfl)) (fun _ => rfl) (fun m w1 w2 h1 h2 => CanF.stab m w1 w2 h1 h2) (fun m w h1 => CanF.maps m w h1) (fun nV w h => asked_yes (nV 0) (nV 1) b _ w ⟨h.reads (id := 0) (kd := .ro) (e := 65) (by kernel_rfl), h.reads (id := 1) (kd := .ro) (e := 70) (by kernel_rfl)⟩ hq1 hq2) (fun mp48 => ?_)
        refine WPO_end (by kernel_rfl) ⟨rfl, (hfz.fnds [3, 0, 1, 2] (by kernel_rfl) ⟨by kernel_rfl, by kernel_rfl, by kernel_rfl, by kernel_rfl, trivial⟩ (by kernel_rfl)), ?_⟩
        refine H_run tt_ok [4, 5, 6] (f' := 2) (by kernel_rfl) (by kernel_rfl) (by kernel_rfl) ?_
        refine H_step 8 (by kernel_rfl) (by kernel_rfl) (fun hfz cx' hx1 hx2 => ?_)
        refine WPO_all tt_ok (by kernel_rfl) ?_
        refine ⟨rfl, (hfz.fnds [3, 0, 1, 2] (by kernel_rfl) ⟨by kernel_rfl, by kernel_rfl, by kernel_rfl, by kernel_rfl, trivial⟩ (by kernel_rfl)), ?_⟩
        refine H_run tt_ok [9] (f' := 0) (by kernel_rfl) (by kernel_rfl) (by kernel_rfl) ?_
        refine H_done (by kernel_rfl) ?_
        exact ⟨mp48, Le_ren [(6, 4), (5, 6), (4, 5)] ⟨by kernel_rfl, by kernel_rfl, by kernel_rfl, by kernel_rfl, by kernel_rfl, by kernel_rfl, by kernel_rfl, trivial⟩ ⟨by kernel_rfl, rfl, by kernel_rfl, by kernel_rfl, rfl, by kernel_rfl, by kernel_rfl, rfl, by kernel_rfl, trivial⟩ (by kernel_rfl) (by kernel_rfl) (rnm_id (m := 2) (by kernel_rfl)) (by show 2 ≤ 7; decide) (by kernel_rfl) (by kernel_rfl)⟩
    intro mp42
    refine WP_seq (WP_seq (WP_region (WPO_all tt_ok (by kernel_rfl) ?_)))
    refine WP_cond ((askT b) != 0) (by kernel_rfl) (fun hc3 => ?_) (fun hc3 => ?_)
    · have hc3' := hc3; try simp only [Bool.and_eq_true, Bool.or_eq_true, Bool.and_eq_false_iff, Bool.or_eq_false_iff, Bool.not_eq_true', Bool.not_eq_false', decide_eq_true_eq, decide_eq_false_iff_not, beq_iff_eq, beq_eq_false_iff_ne, bne_iff_ne, bne_eq_false_iff_eq, ne_eq] at hc3'
      refine WP_seq (WP_region (WPO_all tt_ok (by kernel_rfl) ?_))
      refine WP_ret ?_
      exact ⟨.t [(false, [.int .i64 0]), (false, [.int .i64 (askT b)])], by kernel_rfl, fun nV w' h => ⟨by rw [show nextA b frm = (0, askT b) from by unfold nextA; simp only [hq, hc3, cond_true, cond_false]]; rfl, h.bel⟩⟩
    have hc3' := hc3; try simp only [Bool.and_eq_true, Bool.or_eq_true, Bool.and_eq_false_iff, Bool.or_eq_false_iff, Bool.not_eq_true', Bool.not_eq_false', decide_eq_true_eq, decide_eq_false_iff_not, beq_iff_eq, beq_eq_false_iff_ne, bne_iff_ne, bne_eq_false_iff_eq, ne_eq] at hc3'
    refine WP_skip ?_
    refine WP_seq (WP_drawH [] (by kernel_rfl) (by kernel_rfl) ?_)
    refine H_run tt_ok [0, 1] (f' := 3) (by kernel_rfl) (by kernel_rfl) (by kernel_rfl) ?_
    refine H_step 2 (by kernel_rfl) (by kernel_rfl) (fun hfz cx' hx1 hx2 => ?_)
    refine CALLBOX 83 [.s (.int .i64 frm)] (fun gb2 => .g [.v (.func (.func 109) #[] #[.pointer (some ⟨gb2, 0, none⟩)])]) 3 #[iv frm] (by kernel_rfl) (goes_of (by kernel_rfl)) (fun _ => (by kernel_rfl)) (fun _ => (by kernel_rfl)) (fun _ _ _ => rfl) (fun nV w h => sure_calls frm w) (fun gb2 => ?_)
    refine WPO_end (by kernel_rfl) ⟨rfl, (hfz.fnds [6, 5, 4, 3, 0, 1, 2] (by kernel_rfl) ⟨by kernel_rfl, by kernel_rfl, by kernel_rfl, by kernel_rfl, by kernel_rfl, by kernel_rfl, by kernel_rfl, trivial⟩ (by kernel_rfl)), ?_⟩
    refine H_step 3 (by kernel_rfl) (by kernel_rfl) (fun hfz cx' hx1 hx2 => ?_)
    refine CALLR 82 [.g [.ref 0, .int .i64 b.hear.lo, .int .i64 b.hear.hi, .int .i64 b.br, .int .i64 b.cr, .int .i64 b.sl, .ref 1, .ref 4], .g [.v (.func (.func 109) #[] #[.pointer (some ⟨gb2, 0, none⟩)])]] (.s (.ref 8)) 3 1 (foundF b ([]) frm) encI 0 8 (by kernel_rfl) (by kernel_rfl) (goes_of (by kernel_rfl)) (by kernel_rfl) (by kernel_rfl) (by decide) (fun _ => rfl) (fun nV w h => (foundF_calls (nV 0) (nV 1) (nV 4) b ([]) mp42 gb2 frm w ⟨h.reads (id := 0) (kd := .ro) (e := 65) (by kernel_rfl), h.reads (id := 1) (kd := .ro) (e := 70) (by kernel_rfl)⟩ (HSat_toK 4 5 .own h (by kernel_rfl) (by kernel_rfl)) (h.ents (2, .pf AsksAt (· = 0)) (fnd_mem (by kernel_rfl))).1 (h.ents (7, boxE gb2 3 #[iv frm]) (fnd_mem (by kernel_rfl))).1 hv).mono fun e w' ⟨v, h1, h2, h3, h4⟩ => ⟨v, h1, h2, h3, fun g hg _ => (h4 g hg).1⟩) ?_
    refine WPO_end (by kernel_rfl) ⟨rfl, (hfz.fnds [6, 5, 4, 3, 0, 1, 2] (by kernel_rfl) ⟨by kernel_rfl, by kernel_rfl, by kernel_rfl, by kernel_rfl, by kernel_rfl, by kernel_rfl, by kernel_rfl, trivial⟩ (by kernel_rfl)), ?_⟩
    refine H_run tt_ok [4] (f' := 0) (by kernel_rfl) (by kernel_rfl) (by kernel_rfl) ?_
    refine H_done (by kernel_rfl) ?_
    refine WP_seq (WP_seq (WP_region (WPO_all tt_ok (by kernel_rfl) ?_)))
    refine WP_cond (((foundF b ([]) frm).length : Int) == 0) (by kernel_rfl) (fun hc5 => ?_) (fun hc5 => ?_)
    · have hc5' := hc5; try simp only [Bool.and_eq_true, Bool.or_eq_true, Bool.and_eq_false_iff, Bool.or_eq_false_iff, Bool.not_eq_true', Bool.not_eq_false', decide_eq_true_eq, decide_eq_false_iff_not, beq_iff_eq, beq_eq_false_iff_ne, bne_iff_ne, bne_eq_false_iff_eq, ne_eq] at hc5'
      refine WP_seq (WP_region (WPO_all tt_ok (by kernel_rfl) ?_))
      refine WP_ret ?_
      exact ⟨.t [(false, [.int .i64 0]), (false, [.int .i64 4])], by kernel_rfl, fun nV w' h => ⟨by rw [show nextA b frm = (0, 4) from by unfold nextA; simp only [hq, hc3, hc5, cond_true, cond_false]]; rfl, h.bel⟩⟩
    have hc5' := hc5; try simp only [Bool.and_eq_true, Bool.or_eq_true, Bool.and_eq_false_iff, Bool.or_eq_false_iff, Bool.not_eq_true', Bool.not_eq_false', decide_eq_true_eq, decide_eq_false_iff_not, beq_iff_eq, beq_eq_false_iff_ne, bne_iff_ne, bne_eq_false_iff_eq, ne_eq] at hc5'
    refine WP_skip ?_
    refine WP_seq (WP_region (WPO_run tt_ok 1 (by kernel_rfl) ?_))
    refine IX tt_ok 0 (foundF b ([]) frm).length [] (by kernel_rfl) (fun hG => ⟨by omega, by omega⟩) ?_
    refine WPO_all tt_ok (by kernel_rfl) ?_
    refine WP_ret ?_
    exact ⟨.t [(false, [.int .i64 ((foundF b ([]) frm).getD 0 0)]), (false, [.int .i64 0])], by kernel_rfl, fun nV w' h => ⟨by rw [show nextA b frm = (((foundF b ([]) frm).getD 0 0), 0) from by unfold nextA; simp only [hq, hc3, hc5, cond_true, cond_false]]; rfl, h.bel⟩⟩
def freeA (b : Book) : (List Int) × Int :=
  (bif (checkW b == 0) && true then (bif (askT b) != 0 then ([], askT b) else (foundF b ([]) 0, 0)) else (bif (askN b) != 0 then ([], askN b) else ([], askN b)))
theorem freeA_calls (g0 g1 : Value) (b : Book) (w : World) (r0 : Reads w g0 5 b.ships encShip zShip) (r1 : Reads w g1 4 b.sights encSight zSight) (ha : AsksAt w) : Calls Tryd.prog 30 #[.agg #[g0, iv b.hear.lo, iv b.hear.hi, iv b.br, iv b.cr, iv b.sl, g1]] w fun e w' => ∃ v0, e = .returned (.tuple #[v0, iv (freeA b).2]) ∧ Below w.heap.size w w' ∧ Reads w' v0 1 (freeA b).1 encI 0 ∧ (∀ g, vblk v0 = some g → w.heap.size ≤ g ∧ g < w'.heap.size) := by
  cases hq : ((checkW b == 0) && true)
  · refine calls_of_WP (cx := cx0 w (vn [g0, g1]) 2) (n := vn [g0, g1]) (vs := [.g [.ref 0, .int .i64 b.hear.lo, .int .i64 b.hear.hi, .int .i64 b.br, .int .i64 b.cr, .int .i64 b.sl, .ref 1]]) (hp := [(0, .sl .ro 65 5 b.ships encShip zShip), (1, .sl .ro 70 4 b.sights encSight zSight), (2, .pf AsksAt (· = 0))]) (nx := 3) tt_ok Tryd.func30 rfl rfl rfl (by kernel_rfl) (HSat_args (vn_one (by simp [r0.one, r1.one])) (by decide) ⟨⟨⟨fun _ => rfl, by decide, r0⟩, (Nat.le_of_ble_eq_true rfl)⟩, ⟨⟨fun _ => rfl, by decide, r1⟩, (Nat.le_of_ble_eq_true rfl)⟩, ⟨⟨ha, fun w1 w2 h1 hw => (hw 0 rfl).trans h1, fun g hg => by cases hg; exact (Array.getElem?_eq_some_iff.1 ha).1⟩, (Nat.le_of_ble_eq_true rfl)⟩, trivial⟩) (vsOk (by kernel_rfl)) ?_
    have hl0 := Reads.len r0
    have hl1 := Reads.len r1
    refine WP_seq (WP_region (WPO_all tt_ok (by kernel_rfl) ?_))
    refine WP_seq (WP_region (WPO_run tt_ok 1 (by kernel_rfl) ?_))
    refine CALL 76 [.g [.ref 0, .int .i64 b.hear.lo, .int .i64 b.hear.hi, .int .i64 b.br, .int .i64 b.cr, .int .i64 b.sl, .ref 1], .s (.bool true)] (.t [(true, [.v (.slice none 0 0), .int .i64 0, .int .i64 0, .int .i64 0, .int .i64 0, .int .i64 0, .v (.slice none 0 0), .v (.slice none 0 0)]), (false, [.int .i64 (askN b)])]) [] (by kernel_rfl) (goes_of (by kernel_rfl)) (by kernel_rfl) (by kernel_rfl) (fun _ nV w h => asked_no (nV 0) (nV 1) b _ w ⟨h.reads (id := 0) (kd := .ro) (e := 65) (by kernel_rfl), h.reads (id := 1) (kd := .ro) (e := 70) (by kernel_rfl)⟩ hq) ?_
    refine WPO_all tt_ok (by kernel_rfl) ?_
    refine WP_seq (WP_seq (WP_region (WPO_all tt_ok (by kernel_rfl) ?_)))
    refine WP_cond ((askN b) != 0) (by kernel_rfl) (fun hc1 => ?_) (fun h => by rw [askN_ne b] at h; cases h)
    refine WP_seq (WP_region (WPO_all tt_ok (by kernel_rfl) ?_))
    refine WP_ret ?_
    exact ⟨.t [(false, [.v (.slice none 0 0)]), (false, [.int .i64 (askN b)])], by kernel_rfl, fun nV w' h => ⟨.slice none 0 0, by rw [show freeA b = ([], askN b) from by unfold freeA; simp only [hq, hc1, cond_true, cond_false]]; rfl, h.bel, by rw [show freeA b = ([], askN b) from by unfold freeA; simp only [hq, hc1, cond_true, cond_false]]; exact reads_nil, fun g hg => by cases hg⟩⟩
  · obtain ⟨hq1, hq2⟩ := ask_two hq
    have hv : Valid b := check_valid.1 hq1
    have hbs := hv.nships
    have hbc := hv.cr
    have hbl := hv.sl
    refine calls_of_WP (cx := cx0 w (vn [g0, g1]) 2) (n := vn [g0, g1]) (vs := [.g [.ref 0, .int .i64 b.hear.lo, .int .i64 b.hear.hi, .int .i64 b.br, .int .i64 b.cr, .int .i64 b.sl, .ref 1]]) (hp := [(0, .sl .ro 65 5 b.ships encShip zShip), (1, .sl .ro 70 4 b.sights encSight zSight), (2, .pf AsksAt (· = 0))]) (nx := 3) tt_ok Tryd.func30 rfl rfl rfl (by kernel_rfl) (HSat_args (vn_one (by simp [r0.one, r1.one])) (by decide) ⟨⟨⟨fun _ => rfl, by decide, r0⟩, (Nat.le_of_ble_eq_true rfl)⟩, ⟨⟨fun _ => rfl, by decide, r1⟩, (Nat.le_of_ble_eq_true rfl)⟩, ⟨⟨ha, fun w1 w2 h1 hw => (hw 0 rfl).trans h1, fun g hg => by cases hg; exact (Array.getElem?_eq_some_iff.1 ha).1⟩, (Nat.le_of_ble_eq_true rfl)⟩, trivial⟩) (vsOk (by kernel_rfl)) ?_
    have hl0 := Reads.len r0
    have hl1 := Reads.len r1
    refine WP_seq (WP_region (WPO_all tt_ok (by kernel_rfl) ?_))
    refine WP_seq (WP_region (WPO_run tt_ok 1 (by kernel_rfl) ?_))
    refine CALLMAPS 76 [.g [.ref 0, .int .i64 b.hear.lo, .int .i64 b.hear.hi, .int .i64 b.br, .int .i64 b.cr, .int .i64 b.sl, .ref 1], .s (.bool true)] (.t [(true, [.ref 0, .int .i64 b.hear.lo, .int .i64 b.hear.hi, .int .i64 b.br, .int .i64 b.cr, .int .i64 b.sl, .ref 1, .ref 4]), (false, [.int .i64 (askT b)])]) 100 encM (CanF b []) 4 (by kernel_rfl) (by kernel_rfl) (by kernel_rfl) (goes_of (by kernel_rfl)) (fun _ => (by kernel_rfl)) (fun _ => (by kernel_rfl)) (fun _ => rfl) (fun m w1 w2 h1 h2 => CanF.stab m w1 w2 h1 h2) (fun m w h1 => CanF.maps m w h1) (fun nV w h => asked_yes (nV 0) (nV 1) b _ w ⟨h.reads (id := 0) (kd := .ro) (e := 65) (by kernel_rfl), h.reads (id := 1) (kd := .ro) (e := 70) (by kernel_rfl)⟩ hq1 hq2) (fun mp49 => ?_)
    refine WPO_all tt_ok (by kernel_rfl) ?_
    refine WP_seq (WP_seq (WP_region (WPO_all tt_ok (by kernel_rfl) ?_)))
    refine WP_cond ((askT b) != 0) (by kernel_rfl) (fun hc3 => ?_) (fun hc3 => ?_)
    · have hc3' := hc3; try simp only [Bool.and_eq_true, Bool.or_eq_true, Bool.and_eq_false_iff, Bool.or_eq_false_iff, Bool.not_eq_true', Bool.not_eq_false', decide_eq_true_eq, decide_eq_false_iff_not, beq_iff_eq, beq_eq_false_iff_ne, bne_iff_ne, bne_eq_false_iff_eq, ne_eq] at hc3'
      refine WP_seq (WP_region (WPO_all tt_ok (by kernel_rfl) ?_))
      refine WP_ret ?_
      exact ⟨.t [(false, [.v (.slice none 0 0)]), (false, [.int .i64 (askT b)])], by kernel_rfl, fun nV w' h => ⟨.slice none 0 0, by rw [show freeA b = ([], askT b) from by unfold freeA; simp only [hq, hc3, cond_true, cond_false]]; rfl, h.bel, by rw [show freeA b = ([], askT b) from by unfold freeA; simp only [hq, hc3, cond_true, cond_false]]; exact reads_nil, fun g hg => by cases hg⟩⟩
    have hc3' := hc3; try simp only [Bool.and_eq_true, Bool.or_eq_true, Bool.and_eq_false_iff, Bool.or_eq_false_iff, Bool.not_eq_true', Bool.not_eq_false', decide_eq_true_eq, decide_eq_false_iff_not, beq_iff_eq, beq_eq_false_iff_ne, bne_iff_ne, bne_eq_false_iff_eq, ne_eq] at hc3'
    refine WP_skip ?_
    refine WP_seq (WP_drawH [] (by kernel_rfl) (by kernel_rfl) ?_)
    refine H_run tt_ok [0] (f' := 4) (by kernel_rfl) (by kernel_rfl) (by kernel_rfl) ?_
    refine H_step 1 (by kernel_rfl) (by kernel_rfl) (fun hfz cx' hx1 hx2 => ?_)
    refine CALLBOX 83 [.s (.int .i64 0)] (fun gb4 => .g [.v (.func (.func 109) #[] #[.pointer (some ⟨gb4, 0, none⟩)])]) 3 #[iv 0] (by kernel_rfl) (goes_of (by kernel_rfl)) (fun _ => (by kernel_rfl)) (fun _ => (by kernel_rfl)) (fun _ _ _ => rfl) (fun nV w h => sure_calls 0 w) (fun gb4 => ?_)
    refine WPO_end (by kernel_rfl) ⟨rfl, (hfz.fnds [6, 5, 4, 3, 0, 1, 2] (by kernel_rfl) ⟨by kernel_rfl, by kernel_rfl, by kernel_rfl, by kernel_rfl, by kernel_rfl, by kernel_rfl, by kernel_rfl, trivial⟩ (by kernel_rfl)), ?_⟩
    refine H_step 2 (by kernel_rfl) (by kernel_rfl) (fun hfz cx' hx1 hx2 => ?_)
    refine CALLSL 82 [.g [.ref 0, .int .i64 b.hear.lo, .int .i64 b.hear.hi, .int .i64 b.br, .int .i64 b.cr, .int .i64 b.sl, .ref 1, .ref 4], .g [.v (.func (.func 109) #[] #[.pointer (some ⟨gb4, 0, none⟩)])]] (fun sv1 => .s (.v sv1)) 1 (foundF b ([]) 0) encI 0 (by decide) (by kernel_rfl) (goes_of (by kernel_rfl)) (fun _ => (by kernel_rfl)) (fun _ => (by kernel_rfl)) (fun _ _ _ => rfl) (fun nV w h => foundF_calls (nV 0) (nV 1) (nV 4) b ([]) mp49 gb4 0 w ⟨h.reads (id := 0) (kd := .ro) (e := 65) (by kernel_rfl), h.reads (id := 1) (kd := .ro) (e := 70) (by kernel_rfl)⟩ (HSat_toK 4 5 .own h (by kernel_rfl) (by kernel_rfl)) (h.ents (2, .pf AsksAt (· = 0)) (fnd_mem (by kernel_rfl))).1 (h.ents (7, boxE gb4 3 #[iv 0]) (fnd_mem (by kernel_rfl))).1 hv) (fun sv1 => ?_)
    refine WPO_end (by kernel_rfl) ⟨rfl, (hfz.fnds [6, 5, 4, 3, 0, 1, 2] (by kernel_rfl) ⟨by kernel_rfl, by kernel_rfl, by kernel_rfl, by kernel_rfl, by kernel_rfl, by kernel_rfl, by kernel_rfl, trivial⟩ (by kernel_rfl)), ?_⟩
    refine H_run tt_ok [3, 4] (f' := 0) (by kernel_rfl) (by kernel_rfl) (by kernel_rfl) ?_
    refine H_done (by kernel_rfl) ?_
    refine WP_ret ?_
    exact ⟨.t [(false, [.v sv1]), (false, [.int .i64 0])], by kernel_rfl, fun nV w' h => ⟨sv1, by rw [show freeA b = (foundF b ([]) 0, 0) from by unfold freeA; simp only [hq, hc3, cond_true, cond_false]]; rfl, h.bel, by rw [show freeA b = (foundF b ([]) 0, 0) from by unfold freeA; simp only [hq, hc3, cond_true, cond_false]]; exact (slE_lt (id := 8) (v := sv1) (sz := 1) (li := (foundF b ([]) 0)) (enc := encI) (z := 0) h (by kernel_rfl)).1, (slE_lt (id := 8) (v := sv1) (sz := 1) (li := (foundF b ([]) 0)) (enc := encI) (z := 0) h (by kernel_rfl)).2⟩⟩
def rightA (b : Book) : Bool × Int :=
  (bif (checkW b) != 0 then (false, checkW b) else (isTrueF b ([]), 0))
theorem rightA_calls (g0 g1 : Value) (b : Book) (w : World) (r0 : Reads w g0 5 b.ships encShip zShip) (r1 : Reads w g1 4 b.sights encSight zSight)  : Calls Tryd.prog 25 #[.agg #[g0, iv b.hear.lo, iv b.hear.hi, iv b.br, iv b.cr, iv b.sl, g1]] w fun e w' => e = .returned (.tuple #[.bool (rightA b).1, iv (rightA b).2]) ∧ Below w.heap.size w w' := by
  refine calls_of_WP (cx := cx0 w (vn [g0, g1]) 2) (n := vn [g0, g1]) (vs := [.g [.ref 0, .int .i64 b.hear.lo, .int .i64 b.hear.hi, .int .i64 b.br, .int .i64 b.cr, .int .i64 b.sl, .ref 1]]) (hp := [(0, .sl .ro 65 5 b.ships encShip zShip), (1, .sl .ro 70 4 b.sights encSight zSight)]) (nx := 2) tt_ok Tryd.func25 rfl rfl rfl (by kernel_rfl) (HSat_args (vn_one (by simp [r0.one, r1.one])) (Nat.le_refl _) ⟨⟨⟨fun _ => rfl, by decide, r0⟩, (Nat.le_of_ble_eq_true rfl)⟩, ⟨⟨fun _ => rfl, by decide, r1⟩, (Nat.le_of_ble_eq_true rfl)⟩, trivial⟩) (vsOk (by kernel_rfl)) ?_
  have hl0 := Reads.len r0
  have hl1 := Reads.len r1
  refine WP_seq (WP_region (WPO_all tt_ok (by kernel_rfl) ?_))
  refine WP_seq (WP_seq (WP_region (WPO_run tt_ok 1 (by kernel_rfl) ?_)))
  refine CALL 45 [.g [.ref 0, .int .i64 b.hear.lo, .int .i64 b.hear.hi, .int .i64 b.br, .int .i64 b.cr, .int .i64 b.sl, .ref 1]] (.s (.int .i64 (checkW b))) [] (by kernel_rfl) (goes_of (by kernel_rfl)) (by kernel_rfl) (by kernel_rfl) (fun _ nV w h => Check_calls (nV 0) (nV 1) b w ⟨h.reads (id := 0) (kd := .ro) (e := 65) (by kernel_rfl), h.reads (id := 1) (kd := .ro) (e := 70) (by kernel_rfl)⟩) ?_
  refine WPO_all tt_ok (by kernel_rfl) ?_
  refine WP_seq (WP_region (WPO_all tt_ok (by kernel_rfl) ?_))
  refine WP_cond ((checkW b) != 0) (by kernel_rfl) (fun hc2 => ?_) (fun hc2 => ?_)
  · have hc2' := hc2; try simp only [Bool.and_eq_true, Bool.or_eq_true, Bool.and_eq_false_iff, Bool.or_eq_false_iff, Bool.not_eq_true', Bool.not_eq_false', decide_eq_true_eq, decide_eq_false_iff_not, beq_iff_eq, beq_eq_false_iff_ne, bne_iff_ne, bne_eq_false_iff_eq, ne_eq] at hc2'
    refine WP_seq (WP_region (WPO_all tt_ok (by kernel_rfl) ?_))
    refine WP_ret ?_
    exact ⟨.t [(false, [.bool false]), (false, [.int .i64 (checkW b)])], by kernel_rfl, fun nV w' h => ⟨by rw [show rightA b = (false, checkW b) from by unfold rightA; simp only [hc2, cond_true, cond_false]]; rfl, h.bel⟩⟩
  have hc2' := hc2; try simp only [Bool.and_eq_true, Bool.or_eq_true, Bool.and_eq_false_iff, Bool.or_eq_false_iff, Bool.not_eq_true', Bool.not_eq_false', decide_eq_true_eq, decide_eq_false_iff_not, beq_iff_eq, beq_eq_false_iff_ne, bne_iff_ne, bne_eq_false_iff_eq, ne_eq] at hc2'
  refine WP_skip ?_
  have hv : Valid b := check_valid.1 (by assumption)
  refine WP_seq (WP_region (WPO_run tt_ok 1 (by kernel_rfl) ?_))
  refine CALLMAPS 73 [.g [.ref 0, .int .i64 b.hear.lo, .int .i64 b.hear.hi, .int .i64 b.br, .int .i64 b.cr, .int .i64 b.sl, .ref 1], .s (.v (.slice none 0 0))] (.g [.ref 0, .int .i64 b.hear.lo, .int .i64 b.hear.hi, .int .i64 b.br, .int .i64 b.cr, .int .i64 b.sl, .ref 1, .ref 3]) 100 encM (CanF b ([])) 3 (by kernel_rfl) (by kernel_rfl) (by kernel_rfl) (goes_of (by kernel_rfl)) (fun _ => (by kernel_rfl)) (fun _ => (by kernel_rfl)) (fun _ => rfl) (fun m w1 w2 h1 h2 => CanF.stab m w1 w2 h1 h2) (fun m w h1 => CanF.maps m w h1) (fun nV w h => (opened_calls (nV 0) (nV 1) (.slice none 0 0) b ([]) w ⟨h.reads (id := 0) (kd := .ro) (e := 65) (by kernel_rfl), h.reads (id := 1) (kd := .ro) (e := 70) (by kernel_rfl)⟩ ⟨none, 0, rfl, Nat.le_refl _, Nat.zero_le _, fun h => absurd h (by simp)⟩ hv).mono fun e w' ⟨cv, m, h1, h2, h3, h4⟩ => ⟨cv, m, h1, h2, h4, h3.len, h3.at'⟩) (fun mp50 => ?_)
  refine CALL 74 [.g [.ref 0, .int .i64 b.hear.lo, .int .i64 b.hear.hi, .int .i64 b.br, .int .i64 b.cr, .int .i64 b.sl, .ref 1, .ref 3]] (.s (.bool (isTrueF b ([])))) [] (by kernel_rfl) (goes_of (by kernel_rfl)) (by kernel_rfl) (by kernel_rfl) (fun _ nV w h => isTrue_calls (nV 0) (nV 1) (nV 3) b ([]) mp50 w ⟨h.reads (id := 0) (kd := .ro) (e := 65) (by kernel_rfl), h.reads (id := 1) (kd := .ro) (e := 70) (by kernel_rfl)⟩ (HSat_toK 3 4 .own h (by kernel_rfl) (by kernel_rfl))) ?_
  refine WPO_all tt_ok (by kernel_rfl) ?_
  refine WP_ret ?_
  exact ⟨.t [(false, [.bool (isTrueF b ([]))]), (false, [.int .i64 0])], by kernel_rfl, fun nV w' h => ⟨by rw [show rightA b = (isTrueF b ([]), 0) from by unfold rightA; simp only [hc2, cond_true, cond_false]]; rfl, h.bel⟩⟩
end Go.Proofs.YtamimgmoomcipaaDoor.Fw
namespace Go.Proofs.YtamimgmoomcipaaDoor.Fw
open Go Go.RowKit Go.Proofs.YtamimgmoomcipaaDoor.Eng 
set_option linter.unusedVariables false
set_option linter.unusedSimpArgs false
def leastC (b : Book) (k : Nat) : Int := (coursesF b k []).foldl (fun n c => min n c.1) 120
theorem foldl_min (l : List (Int × Int)) (n : Int) : (∀ c ∈ l, l.foldl (fun n c => min n c.1) n ≤ c.1) ∧ l.foldl (fun n c => min n c.1) n ≤ n ∧ (l.foldl (fun n c => min n c.1) n = n ∨ ∃ c ∈ l, l.foldl (fun n c => min n c.1) n = c.1) := by
  induction l generalizing n with
  | nil => exact ⟨fun c hc => (by cases hc), Int.le_refl _, .inl rfl⟩
  | cons x r ih =>
    obtain ⟨h1, h2, h3⟩ := ih (min n x.1)
    simp only [List.foldl_cons]
    refine ⟨fun c hc => ?_, by omega, ?_⟩
    · rcases List.mem_cons.1 hc with rfl | hc
      · omega
      · exact h1 c hc
    · rcases h3 with h3 | ⟨c, hc, h3⟩
      · by_cases h : n ≤ x.1
        · left; omega
        · right; exact ⟨x, List.mem_cons_self, by omega⟩
      · right; exact ⟨c, List.mem_cons_of_mem _ hc, h3⟩
def LeastOf (b : Book) (k : Nat) (sn : List Nat) (n : Int) : Prop := (∀ j ∈ sn, ∀ y, (coursesF b k [])[j]? = some y → n ≤ y.1) ∧ (n = 120 ∨ ∃ c ∈ coursesF b k [], n = c.1)
theorem least_all {b : Book} {k : Nat} {sn : List Nat} {n : Int} (hv : Valid b) (hk : k < b.ships.length) (h : LeastOf b k sn n) (ha : ∀ i, i < (coursesF b k []).length → i ∈ sn) : n = leastC b k := by
  obtain ⟨h1, h2, h3⟩ := foldl_min (coursesF b k []) 120
  have hle : ∀ c ∈ coursesF b k [], n ≤ c.1 := fun c hc => by
    obtain ⟨i, hi, rfl⟩ := List.mem_iff_getElem.1 hc
    exact h.1 i (ha i hi) _ (List.getElem?_eq_getElem hi)
  unfold leastC
  rcases h.2 with h4 | ⟨c, hc, h4⟩
  · rcases h3 with h3 | ⟨d, hd, h3⟩
    · omega
    · have := hle d hd; omega
  · have := h1 c hc
    have hc2 := (mem_courses hv hk hc).1
    rcases h3 with h3 | ⟨d, hd, h3⟩
    · omega
    · have := hle d hd; omega
theorem least_more {b : Book} {k : Nat} {sn : List Nat} {n : Int} {i : Nat} {x : Int × Int} (h : LeastOf b k sn n) (hx : (coursesF b k [])[i]? = some x) : LeastOf b k (sn ++ [i]) (leastF n [x.1]) := by
  have e : leastF n [x.1] = min n x.1 := by
    unfold leastF
    simp only [loopR, leastF_c1, leastF_b1, List.length_cons, List.length_nil]
    simp [mn]
    omega
  rw [e]
  refine ⟨fun j hj y hy => ?_, ?_⟩
  · rcases List.mem_append.1 hj with hj | hj
    · have := h.1 j hj y hy; omega
    · rw [List.mem_singleton.1 hj, hx] at hy; cases hy; omega
  · by_cases hnx : n ≤ x.1
    · rw [show min n x.1 = n by omega]; exact h.2
    · right; exact ⟨x, List.mem_of_getElem? hx, by omega⟩
theorem CanF.get {b : Book} {but : List Int} {maps : List Nat} {w : World} (h : CanF b but maps w) {q : Nat} (hq : q < b.ships.length) : w.heap[maps.getD q 0]? = some (.map (ents (coursesF b q but) ekC (exC b q)) (coursesF b q but).length) := h.2.get (by rw [h.1]; exact hq)
def hearLo (b : Book) : Nat → Int
  | 0 => b.hear.lo
  | k + 1 => mx (hearLo b k) (leastC b k)
def hearA (b : Book) : Span × Int := if checkW b = 0 then (if isTrueF b [] then (⟨hearLo b b.ships.length, b.hear.hi⟩, 0) else (zSpan, 42)) else (zSpan, checkW b)
theorem hearA_calls (g0 g1 : Value) (b : Book) (w : World) (r0 : Reads w g0 5 b.ships encShip zShip) (r1 : Reads w g1 4 b.sights encSight zSight) (ha : AsksAt w) : Calls Tryd.prog 27 #[.agg #[g0, iv b.hear.lo, iv b.hear.hi, iv b.br, iv b.cr, iv b.sl, g1]] w fun e w' => e = .returned (.tuple #[.agg #[iv (hearA b).1.lo, iv (hearA b).1.hi], iv (hearA b).2]) ∧ Below w.heap.size w w' := by
  cases hq : ((checkW b == 0) && true)
  · refine calls_of_WP (cx := cx0 w (vn [g0, g1]) 2) (n := vn [g0, g1]) (vs := [.g [.ref 0, .int .i64 b.hear.lo, .int .i64 b.hear.hi, .int .i64 b.br, .int .i64 b.cr, .int .i64 b.sl, .ref 1]]) (hp := [(0, .sl .ro 65 5 b.ships encShip zShip), (1, .sl .ro 70 4 b.sights encSight zSight), (2, .pf AsksAt (· = 0))]) (nx := 3) tt_ok Tryd.func27 rfl rfl rfl (by kernel_rfl) (HSat_args (vn_one (by simp [r0.one, r1.one])) (by decide) ⟨⟨⟨fun _ => rfl, by decide, r0⟩, (Nat.le_of_ble_eq_true rfl)⟩, ⟨⟨fun _ => rfl, by decide, r1⟩, (Nat.le_of_ble_eq_true rfl)⟩, ⟨⟨ha, fun w1 w2 h1 hw => (hw 0 rfl).trans h1, fun g hg => by cases hg; exact (Array.getElem?_eq_some_iff.1 ha).1⟩, (Nat.le_of_ble_eq_true rfl)⟩, trivial⟩) (vsOk (by kernel_rfl)) ?_
    have hl0 := Reads.len r0
    have hl1 := Reads.len r1
    refine WP_seq (WP_region (WPO_all tt_ok (by kernel_rfl) ?_))
    refine WP_seq (WP_region (WPO_run tt_ok 1 (by kernel_rfl) ?_))
    refine CALL 76 [.g [.ref 0, .int .i64 b.hear.lo, .int .i64 b.hear.hi, .int .i64 b.br, .int .i64 b.cr, .int .i64 b.sl, .ref 1], .s (.bool true)] (.t [(true, [.v (.slice none 0 0), .int .i64 0, .int .i64 0, .int .i64 0, .int .i64 0, .int .i64 0, .v (.slice none 0 0), .v (.slice none 0 0)]), (false, [.int .i64 (askN b)])]) [] (by kernel_rfl) (goes_of (by kernel_rfl)) (by kernel_rfl) (by kernel_rfl) (fun _ nV w h => asked_no (nV 0) (nV 1) b _ w ⟨h.reads (id := 0) (kd := .ro) (e := 65) (by kernel_rfl), h.reads (id := 1) (kd := .ro) (e := 70) (by kernel_rfl)⟩ hq) ?_
    refine WPO_all tt_ok (by kernel_rfl) ?_
    refine WP_seq (WP_seq (WP_region (WPO_all tt_ok (by kernel_rfl) ?_)))
    refine WP_cond ((askN b) != 0) (by kernel_rfl) (fun hc1 => ?_) (fun h => by rw [askN_ne b] at h; cases h)
    refine WP_seq (WP_region (WPO_all tt_ok (by kernel_rfl) ?_))
    refine WP_ret ?_
    exact ⟨.t [(true, [.int .i64 0, .int .i64 0]), (false, [.int .i64 (askN b)])], by kernel_rfl, fun nV w' h => ⟨by rw [show hearA b = ((⟨0, 0⟩ : Span), askN b) from by have h0 : checkW b ≠ 0 := (by intro h; rw [h] at hq; cases hq); unfold hearA askN; rw [if_neg h0, if_neg h0]; rfl]; rfl, h.bel⟩⟩
  · obtain ⟨hq1, hq2⟩ := ask_two hq
    have hv : Valid b := check_valid.1 hq1
    have hbs := hv.nships
    have hbc := hv.cr
    have hbl := hv.sl
    refine calls_of_WP (cx := cx0 w (vn [g0, g1]) 2) (n := vn [g0, g1]) (vs := [.g [.ref 0, .int .i64 b.hear.lo, .int .i64 b.hear.hi, .int .i64 b.br, .int .i64 b.cr, .int .i64 b.sl, .ref 1]]) (hp := [(0, .sl .ro 65 5 b.ships encShip zShip), (1, .sl .ro 70 4 b.sights encSight zSight), (2, .pf AsksAt (· = 0))]) (nx := 3) tt_ok Tryd.func27 rfl rfl rfl (by kernel_rfl) (HSat_args (vn_one (by simp [r0.one, r1.one])) (by decide) ⟨⟨⟨fun _ => rfl, by decide, r0⟩, (Nat.le_of_ble_eq_true rfl)⟩, ⟨⟨fun _ => rfl, by decide, r1⟩, (Nat.le_of_ble_eq_true rfl)⟩, ⟨⟨ha, fun w1 w2 h1 hw => (hw 0 rfl).trans h1, fun g hg => by cases hg; exact (Array.getElem?_eq_some_iff.1 ha).1⟩, (Nat.le_of_ble_eq_true rfl)⟩, trivial⟩) (vsOk (by kernel_rfl)) ?_
    have hl0 := Reads.len r0
    have hl1 := Reads.len r1
    refine WP_seq (WP_region (WPO_all tt_ok (by kernel_rfl) ?_))
    refine WP_seq (WP_region (WPO_run tt_ok 1 (by kernel_rfl) ?_))
    refine CALLMAPS 76 [.g [.ref 0, .int .i64 b.hear.lo, .int .i64 b.hear.hi, .int .i64 b.br, .int .i64 b.cr, .int .i64 b.sl, .ref 1], .s (.bool true)] (.t [(true, [.ref 0, .int .i64 b.hear.lo, .int .i64 b.hear.hi, .int .i64 b.br, .int .i64 b.cr, .int .i64 b.sl, .ref 1, .ref 5]), (false, [.int .i64 (askT b)])]) 100 encM (CanF b []) 5 (by kernel_rfl) (by kernel_rfl) (by kernel_rfl) (goes_of (by kernel_rfl)) (fun _ => (by kernel_rfl)) (fun _ => (by kernel_rfl)) (fun _ => rfl) (fun m w1 w2 h1 h2 => CanF.stab m w1 w2 h1 h2) (fun m w h1 => CanF.maps m w h1) (fun nV w h => asked_yes (nV 0) (nV 1) b _ w ⟨h.reads (id := 0) (kd := .ro) (e := 65) (by kernel_rfl), h.reads (id := 1) (kd := .ro) (e := 70) (by kernel_rfl)⟩ hq1 hq2) (fun mp51 => ?_)
    refine WPO_all tt_ok (by kernel_rfl) ?_
    refine WP_seq (WP_seq (WP_region (WPO_all tt_ok (by kernel_rfl) ?_)))
    refine WP_cond ((askT b) != 0) (by kernel_rfl) (fun hc3 => ?_) (fun hc3 => ?_)
    · have hc3' := hc3; try simp only [Bool.and_eq_true, Bool.or_eq_true, Bool.and_eq_false_iff, Bool.or_eq_false_iff, Bool.not_eq_true', Bool.not_eq_false', decide_eq_true_eq, decide_eq_false_iff_not, beq_iff_eq, beq_eq_false_iff_ne, bne_iff_ne, bne_eq_false_iff_eq, ne_eq] at hc3'
      refine WP_seq (WP_region (WPO_all tt_ok (by kernel_rfl) ?_))
      refine WP_ret ?_
      exact ⟨.t [(true, [.int .i64 0, .int .i64 0]), (false, [.int .i64 (askT b)])], by kernel_rfl, fun nV w' h => ⟨by rw [show hearA b = ((⟨0, 0⟩ : Span), askT b) from by have h0 : ¬ isTrueF b [] = true := (by intro h; unfold askT at hc3; rw [if_pos h] at hc3; cases hc3); unfold hearA askT; rw [if_pos hq1, if_neg h0, if_neg h0]; rfl]; rfl, h.bel⟩⟩
    have hc3' := hc3; try simp only [Bool.and_eq_true, Bool.or_eq_true, Bool.and_eq_false_iff, Bool.or_eq_false_iff, Bool.not_eq_true', Bool.not_eq_false', decide_eq_true_eq, decide_eq_false_iff_not, beq_iff_eq, beq_eq_false_iff_ne, bne_iff_ne, bne_eq_false_iff_eq, ne_eq] at hc3'
    refine WP_skip ?_
    refine WP_seq (WP_region (WPO_all tt_ok (by kernel_rfl) ?_))
    refine WP_fact (p := mp51.length = b.ships.length) (fun nV aV wV hs => (hs.heap.ents (6, pfK b [] mp51) (fnd_mem (by kernel_rfl))).1.1) (fun hml => ?_)
    refine WP_seq (WP_seq (WP_region (WPO_all tt_ok (by kernel_rfl) ?_)))
    refine WP_block (WP_loop (σ := Int × Int) (fun zz => ⟨47, [(25, [], .s (.int .i64 zz.1)), (24, [], .s (.int .i64 (mp51.length : Int))), (23, [], .s (.ref 5)), (6, [], .s (.p 8 0)), (2, [], .s (.p 4 0))], [(8, .box 24 [.int .i64 zz.2, .int .i64 b.hear.hi]), (7, .box 94 [.ref 0, .int .i64 b.hear.lo, .int .i64 b.hear.hi, .int .i64 b.br, .int .i64 b.cr, .int .i64 b.sl, .ref 1, .ref 5]), (6, pfK b [] mp51), (5, .sl .own 100 1 mp51 encM 0), (4, .box 24 [.int .i64 0, .int .i64 0]), (3, .box 27 [.ref 0, .int .i64 b.hear.lo, .int .i64 b.hear.hi, .int .i64 b.br, .int .i64 b.cr, .int .i64 b.sl, .ref 1]), (0, .sl .ro 65 5 b.ships encShip zShip), (1, .sl .ro 70 4 b.sights encSight zSight), (2, .pf AsksAt (· = 0))], 9, []⟩) (fun zz => ∃ k : Nat, k ≤ b.ships.length ∧ zz.1 = k ∧ zz.2 = hearLo b k) (fun zz => b.ships.length - zz.1.toNat) (0, b.hear.lo) (⟨0, by omega, rfl, rfl⟩) (Le_sel (ts := [25, 24, 23, 6, 2]) (ids := [8, 7, 6, 5, 4, 3, 0, 1, 2]) (nx := 9) (by kernel_rfl)) ?_)
    rintro ⟨i, lo⟩ hinv
    obtain ⟨k, hk, hi, hlo⟩ := hinv
    simp only at hi hlo
    subst hi
    subst hlo
    refine WP_seq (WP_region (WPO_all tt_ok (by kernel_rfl) ?_))
    refine WP_seq (WP_cond (decide ((k : Int) < (mp51.length : Int))) (by kernel_rfl) (fun hc5 => ?_) (fun hc5 => ?_))
    · have hc5' := of_decide_eq_true hc5
      refine WP_skip ?_
      refine WP_seq (WP_block ?_)
      refine WP_seq (WP_region (IX tt_ok (k : Int) mp51.length [] (by kernel_rfl) (fun hG => ⟨by omega, by omega⟩) ?_))
      refine WPO_all tt_ok (by kernel_rfl) ?_
      refine WP_seq (WP_region (WPO_all tt_ok (by kernel_rfl) ?_))
      refine WP_seq (WP_seq (WP_region (WPO_run tt_ok 1 (by kernel_rfl) ?_)))
      refine RNG tt_ok (coursesF b k []) ekC (exC b k) (.s (.v (.map (some (mp51.getD k 0))))) (mp51.getD k 0) (some 30) (by kernel_rfl) (fun n w h => ⟨rfl, CanF.get (h.ents (6, pfK b [] mp51) (fnd_mem (by kernel_rfl))).1 (by omega)⟩) (by kernel_rfl) ?_
      refine WPO_nil ?_
      refine WP_block (WP_loop (σ := List Nat × Int) (fun zz => ⟨47, [(30, [], .s (.ref 9)), (9, [], .s (.int .i64 zz.2)), (25, [], .s (.int .i64 (k : Int))), (24, [], .s (.int .i64 (mp51.length : Int))), (23, [], .s (.ref 5)), (6, [], .s (.p 8 0)), (2, [], .s (.p 4 0))], [(9, .ob false (.mapIter (some (mp51.getD k 0)) (coursesF b k []).length (zz.1 : List Nat).toArray (coursesF b k []).length)), (8, .box 24 [.int .i64 (hearLo b k), .int .i64 b.hear.hi]), (7, .box 94 [.ref 0, .int .i64 b.hear.lo, .int .i64 b.hear.hi, .int .i64 b.br, .int .i64 b.cr, .int .i64 b.sl, .ref 1, .ref 5]), (6, pfK b [] mp51), (5, .sl .own 100 1 mp51 encM 0), (4, .box 24 [.int .i64 0, .int .i64 0]), (3, .box 27 [.ref 0, .int .i64 b.hear.lo, .int .i64 b.hear.hi, .int .i64 b.br, .int .i64 b.cr, .int .i64 b.sl, .ref 1]), (0, .sl .ro 65 5 b.ships encShip zShip), (1, .sl .ro 70 4 b.sights encSight zSight), (2, .pf AsksAt (· = 0))], 10, []⟩) (fun zz => LeastOf b k zz.1 zz.2) (fun zz => left (coursesF b k []).length zz.1) ([], 120) (⟨fun j hj => (by cases hj), .inl rfl⟩) (Le_sel (ts := [30, 9, 25, 24, 23, 6, 2]) (ids := [9, 8, 7, 6, 5, 4, 3, 0, 1, 2]) (nx := 10) (by kernel_rfl)) ?_)
      rintro ⟨sn, n⟩ hinv
      simp only at hinv
      refine WP_seq (WP_region (NXT (coursesF b k []) ekC (exC b k) pkC (pxC b k) 9 (mp51.getD k 0) sn (some 31) (by kernel_rfl) (by kernel_rfl) (fun n w h => CanF.get (h.ents (6, pfK b [] mp51) (fnd_mem (by kernel_rfl))).1 (by omega)) (fun _ n => ⟨rfl, arrB_c _ _ _⟩) (fun _ _ => ⟨ints_ok _ _ _, arrB_ok _ _ _⟩) (by kernel_rfl) (fun hall10 => ?_) (fun _ _ => (by kernel_rfl)) (fun ei6 ex7 hx8 hn9 => ?_)))
      · refine WPO_all tt_ok (by kernel_rfl) ?_
        refine WP_seq (WP_cond (false) (by kernel_rfl) (fun h => by cases h) (fun hc11 => ?_))
        refine WP_exit ?_
        have hnl := least_all hv (k := k) (by omega) hinv hall10
        refine WP_region (WPO_all tt_ok (by kernel_rfl) ?_)
        refine WP_region (WPO_all tt_ok (by kernel_rfl) ?_)
        refine ⟨(IntKind.i64.wrap ((k : Int) + 1), mx (hearLo b k) n), ?_, ?_, Le_sel (ts := [25, 24, 23, 6, 2]) (ids := [8, 7, 6, 5, 4, 3, 0, 1, 2]) (nx := 9) (by kernel_rfl)⟩
        · refine ⟨k + 1, by omega, by simp only; rw [wrapI (by omega) (by omega)]; rfl, by simp only [hearLo]; rw [hnl]⟩
        · simp only
          rw [wrapI (by omega) (by omega)]
          omega
      refine WPO_all tt_ok (by kernel_rfl) ?_
      refine WP_seq (WP_cond (true) (by kernel_rfl) (fun hc12 => ?_) (fun h => by cases h))
      refine WP_skip ?_
      refine WP_block ?_
      refine WP_seq (WP_region (ENT (coursesF b k []) ekC (exC b k) pkC (pxC b k) 9 (mp51.getD k 0) sn ei6 ex7 (some 33) (by kernel_rfl) (by kernel_rfl) (fun n w h => CanF.get (h.ents (6, pfK b [] mp51) (fnd_mem (by kernel_rfl))).1 (by omega)) hx8 (fun n => ⟨rfl, arrB_c _ _ _⟩) (⟨ints_ok _ _ _, arrB_ok _ _ _⟩) (by kernel_rfl) ?_))
      refine WPO_all tt_ok (by kernel_rfl) ?_
      refine WP_region (WPO_run tt_ok 3 (by kernel_rfl) ?_)
      refine LIT tt_ok (by kernel_rfl) ?_
      refine LITSL 11 3 1 1 [.int .i64 ex7.1] [ex7.1] encI 0 (by kernel_rfl) rfl (fun _ => rfl) (fun n => rfl) ?_
      refine CALL 77 [.s (.int .i64 n), .s (.ref 11)] (.s (.int .i64 (leastF n ([ex7.1])))) [] (by kernel_rfl) (goes_of (by kernel_rfl)) (by kernel_rfl) (by kernel_rfl) (fun _ nV w h => leastF_calls (nV 11) n ([ex7.1]) w (h.reads (id := 11) (kd := .own) (e := 3) (by kernel_rfl)) ) ?_
      refine WPO_all tt_ok (by kernel_rfl) ?_
      refine ⟨(sn ++ [ei6], (leastF n ([ex7.1]))), ?_, ?_, Le_sel (ts := [30, 9, 25, 24, 23, 6, 2]) (ids := [9, 8, 7, 6, 5, 4, 3, 0, 1, 2]) (nx := 10) (by kernel_rfl)⟩
      · exact least_more hinv hx8
      · exact left_lt (List.getElem?_eq_some_iff.1 hx8).1 hn9
    have hc5' := of_decide_eq_false hc5
    refine WP_exit ?_
    obtain rfl : k = b.ships.length := by omega
    refine WP_seq (WP_region (WPO_all tt_ok (by kernel_rfl) ?_))
    refine WP_ret ?_
    exact ⟨.t [(true, [.int .i64 (hearLo b b.ships.length), .int .i64 b.hear.hi]), (false, [.int .i64 0])], by kernel_rfl, fun nV w' h => ⟨by rw [show hearA b = ((⟨hearLo b b.ships.length, b.hear.hi⟩ : Span), 0) from by unfold hearA; rw [if_pos hq1, if_pos (askT_ok hc3)]]; rfl, h.bel⟩⟩
end Go.Proofs.YtamimgmoomcipaaDoor.Fw
namespace Go.Proofs.YtamimgmoomcipaaDoor.Eng
open Go Go.RowKit
set_option linter.unusedVariables false
set_option linter.unusedSimpArgs false
def ldoA (ops : Array Oper) (s : AS) : List Oper → Option (TypeId × Nat × Nat × Option Tmp)
  | o :: _ => match o.op, o.guard with
    | .load t x, none => match ev s [] x with
      | some (.s (.v (.pointer (some ⟨g, off, none⟩)))) => some (t, g, off, o.dst)
      | _ => none
    | _, _ => none
  | [] => none
section
variable {P : Program} {tt : TT} {cx : Cx} {s s0 s' : AS} {Q : Exit → AS → Prop} {ops : Array Oper} {l : List Oper}
theorem ldo_sound (hT : TTok P tt) {t g off : Nat} {d : Option Tmp} {cs : List AC} {ty : TypeId} {v : AV} (h : ldoA ops s l = some (t, g, off, d)) (hv : ((tyL tt t).bind fun i => sub cs off i.size i.d.ag) = some v) : ∃ (o : Oper) (rest : List Oper), l = o :: rest ∧ o.guard = none ∧ d = o.dst ∧
    ∀ (n : Vn) (a : Act) (w : World) (s1 : AS), s1.env = s.env → (∀ x ∈ s1.env, EntOk n s1 a x) → w.heap[g]? = some (.cells (cellsV n cs) ty (0, 0)) → (execOp a.eval o).run P w = .ok (.value (v.c n)) w := by
  cases l with
  | nil => cases h
  | cons o rest =>
    simp only [ldoA] at h
    split at h <;> try (cases h; done)
    rename_i t' x ho hg
    split at h <;> try (cases h; done)
    rename_i g' off' hx
    cases h
    obtain ⟨i, hi, hsub⟩ := Option.bind_eq_some_iff.1 hv
    obtain ⟨F⟩ := hT.get hi
    refine ⟨o, rest, rfl, hg, rfl, fun n a w s1 he henv hheap => ?_⟩
    have hH : Holds a [] := fun x hx => by cases hx
    have hx1 : ev s1 [] x = some (.s (.v (.pointer (some ⟨g, off, none⟩)))) := by
      have : ∀ (y : Operand), ev s1 [] y = ev s [] y := fun y => by cases y <;> simp only [ev, he]
      rw [this]; exact hx
    obtain ⟨e1, _⟩ := ev_sound henv hH hx1
    simp only [AV.c, AC.c] at e1
    have hl := loadVar_sound (w := w) (n := n) F ⟨g, off, none⟩ cs off v hsub fun j c hc _ => by
      rw [add_pl, cell_of_row w g _ _ _ _ hheap]
      simp [cellsV, hc]
    unfold execOp
    rw [ho]
    simp only [e1, Sem.run_bind, Instr.loadAt, Instr.sureAddr, Sem.run_pure, Result.andThen_ok, hl]
theorem LDGo (hT : TTok P tt) (t g off : Nat) (d : Option Tmp) (cs : List AC) (ty : TypeId) (v : AV) (h : ldoA ops s l = some (t, g, off, d)) (hv : ((tyL tt t).bind fun i => sub cs off i.size i.d.ag) = some v) (hok : okB s v = true)
    (hw : ∀ n w, HSat cx n s w → w.heap[g]? = some (.cells (cellsV n cs) ty (0, 0))) (hp : (s.put d [] v).isSome = true) (hK : WPO P cx ops l.tail ((s.put d [] v).getD s) Q) : WPO P cx ops l s Q := fun n a w hs => by
  obtain ⟨o, rest, rfl, hg, rfl, hrun⟩ := ldo_sound (ty := ty) hT h hv
  obtain ⟨s', hs'⟩ := Option.isSome_iff_exists.1 hp
  rw [hs'] at hK
  have hH : Holds a [] := fun x hx => by cases hx
  exact wp_value (wanted_none (ops := ops) hg) (hrun n a w s rfl hs.env (hw n w hs.heap)) (hK _ _ _ (put_sat hs hs' (fun _ => ⟨rfl, okB_sound hok⟩) (fun hn => absurd hH hn)))
theorem H_LDG (hT : TTok P tt) (i : Nat) (t g off : Nat) (d : Option Tmp) (cs : List AC) (ty : TypeId) (v : AV) {fuel : Nat} {listed : Array Bool} (h : ldoA ops s (opAt ops i) = some (t, g, off, d)) (hv : ((tyL tt t).bind fun i => sub cs off i.size i.d.ag) = some v) (hok : okB ⟨0, [], [], 0, []⟩ v = true)
    (hw : ∀ cx n w, HSat cx n { s with hp := s0.hp } w → w.heap[g]? = some (.cells (cellsV n cs) ty (0, 0))) (hp : (s.put d [] v).isSome = true) (hs : Region.noSelect ops = true) (hb : takB ops listed i = true)
    (hK : WPH P cx ops s0 fuel (listed.setIfInBounds i true) ((s.put d [] v).getD s) Q) : WPH P cx ops s0 (fuel + 1) listed s Q := by
  obtain ⟨o, rest, hl, hg, rfl, hrun⟩ := ldo_sound (ty := ty) hT h hv
  obtain ⟨s', hs'⟩ := Option.isSome_iff_exists.1 hp
  rw [hs'] at hK
  have hb' := hb
  simp only [takB, Bool.and_eq_true] at hb'
  have hgt : gTag s ops o = some [] := by unfold gTag; rw [hg]
  have hok' : ∀ s1 : AS, v.ok s1 := fun s1 => okB_sound (okB_nx (Nat.zero_le _) hok)
  exact H_takeq (T := []) (r := v) i (opAt_cons hl) hgt hs' (fun _ cx n a w hh henv _ => ⟨hrun n a w { s with hp := s0.hp } rfl henv (hw cx n w hh), hok' _⟩) (fun _ => hok' _) hs hb'.1 hb'.2 hK
theorem CALLTK (k : FuncId) (vs : List AV) (r : Value → AV) (a : Nat) (e : TypeId) (sz0 : Nat) {α0 : Type} (l0 : List α0) (enc0 : α0 → List Value) (z0 : α0) (sz : Nat) {α : Type} (li : List α) (enc : α → List Value) (z : α) (hf : fnd s.hp a = some (.sl .own e sz0 l0 enc0 z0)) (h : (callA ops s l).map (fun x => (x.1, x.2.1, x.2.2.2.2)) = some (k, vs, [])) (hgo : goes P k)
    (hp : ∀ v, (callPN ops s l (AS.add { s with hp := rem s.hp a } (slE v sz li enc z)) (r v)).isSome = true) (hr : ∀ v, okB (AS.add { s with hp := rem s.hp a } (slE v sz li enc z)) (r v) = true) (hrc : ∀ v n n', (r v).c n = (r v).c n')
    (hcall : ∀ n w, HSat cx n s w → Calls P k (vs.map (AV.c n)).toArray w fun e' w' => ∃ v, e' = .returned ((r v).c n) ∧ Below w.heap.size w w' ∧ Reads w' v sz li enc z ∧ (∀ g, vblk v = some g → vblk (n a) = some g ∨ (w.heap.size ≤ g ∧ g < w'.heap.size)))
    (hK : ∀ v, WPO P cx ops l.tail ((callPN ops s l (AS.add { s with hp := rem s.hp a } (slE v sz li enc z)) (r v)).getD s) Q) : WPO P cx ops l s Q := by
  refine CALLX (σ := Value) k vs (fun v => AS.add { s with hp := rem s.hp a } (slE v sz li enc z)) r h hgo hp hr (fun g => More.trans (rem_more s a) (More.add _ _)) (fun g => ⟨rfl, rfl, rfl⟩) (fun n w hh => (hcall n w hh).mono fun e' w' ⟨v, h2, h3, h4, h5⟩ => ⟨v, upd n s.nx .nilFunc, upd_lt n s.nx _, by rw [h2, hrc v n], ?_⟩) hK
  have he0 := hh.ents _ (fnd_mem hf)
  have hlt0 := hh.lt _ (fnd_mem hf)
  have hdis : ∀ x ∈ rem s.hp a, ∀ g, x.2.foot (n x.1) g → vblk (n a) ≠ some g := fun x hx g hg hv => by
    have hsym : ∀ (x y : Nat × HE), ((x.2.mut = true ∨ y.2.mut = true) → ∀ g, x.2.foot (n x.1) g → ¬ y.2.foot (n y.1) g) → ((y.2.mut = true ∨ x.2.mut = true) → ∀ g, y.2.foot (n y.1) g → ¬ x.2.foot (n x.1) g) :=
      fun x y h hm g h1 h2 => h hm.symm g h2 h1
    exact pw_mem hsym hh.sep ((rem_sub s.hp a).subset hx) (fnd_mem hf) (fun e => rem_ne hx (by rw [e])) (.inr rfl) g hg hv
  exact (hh.rem a).add h3 rfl ⟨h4, fun g' hg' => (h5 g' hg').elim (fun hq => he0.2.1 g' hq) (fun hq => hh.fr.news g' (Nat.le_trans hh.fr.size hq.1)), fun w1 w2 h hw => h.stab hw⟩ trivial
    (fun g' hg' => (h5 g' hg').elim (fun hq => Nat.lt_of_lt_of_le (hlt0 g' hq) h3.size) (fun hq => hq.2)) (fun g' hg' => (h5 g' hg').elim (fun hq => .inr fun x hx _ hxg => hdis x hx g' hxg hq) (fun hq => .inl hq.1))
end
end Go.Proofs.YtamimgmoomcipaaDoor.Eng
namespace Go.Proofs.YtamimgmoomcipaaDoor.Fw
open Go Go.RowKit Go.Proofs.YtamimgmoomcipaaDoor.Eng 
set_option linter.unusedVariables false
set_option linter.unusedSimpArgs false
def frmW (s : List Int) : Nat := if s = [] then 0 else (s.getD (s.length - 1) 0 + 1).toNat
def chooseW (b : Book) : Nat → List Int → List Int × Bool
  | 0, s => (s, isTrueF b s)
  | r + 1, s => match (List.range' (frmW s) (b.sights.length - frmW s)).find? fun q : Nat => (chooseW b r (s ++ [(q : Int)])).2 with
    | some q => ((chooseW b r (s ++ [(q : Int)])).1, true)
    | none => ([], false)
def Somes (b : Book) (s : List Int) : Prop := s.length ≤ 5 ∧ ∀ x ∈ s, 0 ≤ x ∧ x < b.sights.length
theorem frmW_eq {b : Book} {s : List Int} (hv : Valid b) (hs : Somes b s) : (bif decide ((s.length : Int) > 0) then IntKind.i64.wrap (s.getD (IntKind.i64.wrap ((s.length : Int) - 1)).toNat 0 + 1) else 0) = (frmW s : Int) := by
  have h1 := hs.1
  have h2 := hv.nsights
  unfold frmW
  by_cases h : s = []
  · rw [if_pos h, h]; rfl
  · have h0 : 0 < s.length := List.length_pos_iff.2 h
    rw [if_neg h, decide_eq_true (by omega), cond_true, wrapI (x := (s.length : Int) - 1) (by omega) (by omega)]
    have e : ((s.length : Int) - 1).toNat = s.length - 1 := by omega
    rw [e]
    have hm := hs.2 _ (getD_mem (z := 0) (show s.length - 1 < s.length by omega))
    rw [wrapI (by omega) (by omega)]
    omega
theorem frmW_le {b : Book} {s : List Int} (hv : Valid b) (hs : Somes b s) : frmW s ≤ b.sights.length := by
  unfold frmW
  by_cases h : s = []
  · rw [if_pos h]; omega
  · rw [if_neg h]
    have hm := hs.2 _ (getD_mem (z := 0) (show s.length - 1 < s.length by have : 0 < s.length := List.length_pos_iff.2 h; omega))
    omega
theorem choose_none {b : Book} {r : Nat} {s : List Int} (h : ∀ q, frmW s ≤ q → q < b.sights.length → (chooseW b r (s ++ [(q : Int)])).2 = false) : chooseW b (r + 1) s = ([], false) := by
  simp only [chooseW]
  rw [List.find?_eq_none.2 fun q hq => by
    obtain ⟨i, hi, rfl⟩ := List.mem_range'.1 hq
    rw [h _ (by omega) (by omega)]; decide]
theorem choose_some {b : Book} {r : Nat} {s : List Int} {q : Nat} (h : ∀ p, frmW s ≤ p → p < q → (chooseW b r (s ++ [(p : Int)])).2 = false) (h1 : frmW s ≤ q) (h2 : q < b.sights.length) (h3 : (chooseW b r (s ++ [(q : Int)])).2 = true) : chooseW b (r + 1) s = ((chooseW b r (s ++ [(q : Int)])).1, true) := by
  simp only [chooseW]
  have : (List.range' (frmW s) (b.sights.length - frmW s)).find? (fun q : Nat => (chooseW b r (s ++ [(q : Int)])).2) = some q := by
    rw [List.find?_eq_some_iff_append]
    refine ⟨h3, List.range' (frmW s) (q - frmW s), List.range' (q + 1) (b.sights.length - q - 1), ?_, fun p hp => ?_⟩
    · have e1 : b.sights.length - frmW s = (q - frmW s) + (1 + (b.sights.length - q - 1)) := by omega
      rw [e1, ← List.range'_append, ← List.range'_append]
      simp only [Nat.mul_one, Nat.one_mul]
      rw [show frmW s + (q - frmW s) = q by omega]
      rfl
    · obtain ⟨i, hi, rfl⟩ := List.mem_range'.1 hp
      rw [h _ (by omega) (by omega)]; rfl
  rw [this]
theorem somes_snoc {b : Book} {s : List Int} {q : Nat} (hs : Somes b s) (hq : q < b.sights.length) (hl : s.length < 5) : Somes b (s ++ [(q : Int)]) := by
  refine ⟨by simp; omega, fun x hx => ?_⟩
  rcases List.mem_append.1 hx with hx | hx
  · exact hs.2 x hx
  · rw [List.mem_singleton.1 hx]; omega
theorem choose_calls (b : Book) (hv : Valid b) (sv gv : Value) (gx gc : Nat) : ∀ (r : Nat) (s : List Int) (tv : Value) (w : World), Somes b s → s.length + r ≤ 5 → BookAt w sv gv b → Reads w tv 1 s encI 0 → (fun w => w.heap[gx]? = some (.cells #[sv, iv b.hear.lo, iv b.hear.hi, iv b.br, iv b.cr, iv b.sl, gv] 27 (0, 0))) w → (fun w => w.heap[gc]? = some (.cells #[.func (.func 75) #[] #[.pointer (some ⟨gx, 0, none⟩), .pointer (some ⟨gc, 0, none⟩)]] 96 (0, 0))) w →
    Calls Tryd.prog 75 #[tv, iv (s.length + r : Nat), .pointer (some ⟨gx, 0, none⟩), .pointer (some ⟨gc, 0, none⟩)] w fun e w' => ∃ v, e = .returned (.tuple #[v, .bool (chooseW b r s).2]) ∧ Below w.heap.size w w' ∧ Reads w' v 1 (chooseW b r s).1 encI 0 ∧ (∀ g, vblk v = some g → vblk tv = some g ∨ (w.heap.size ≤ g ∧ g < w'.heap.size)) := by
  intro r
  induction r with
  | zero =>
    intro s tv w hs hsr hb rd hx hc
    have hsl := hs.1
    have hbg := hv.nsights
    refine calls_of_WP (cx := cx0 w (vn [sv, gv, tv]) 3) (n := vn [sv, gv, tv]) (vs := [.s (.ref 2), .s (.int .i64 ((s.length + 0 : Nat) : Int)), .s (.v (.pointer (some ⟨gx, 0, none⟩))), .s (.v (.pointer (some ⟨gc, 0, none⟩)))]) (hp := [(0, .sl .ro 65 5 b.ships encShip zShip), (1, .sl .ro 70 4 b.sights encSight zSight), (2, .sl .ro 3 1 s encI 0), (3, .pf (fun w => w.heap[gx]? = some (.cells #[sv, iv b.hear.lo, iv b.hear.hi, iv b.br, iv b.cr, iv b.sl, gv] 27 (0, 0))) (· = gx)), (4, .pf (fun w => w.heap[gc]? = some (.cells #[.func (.func 75) #[] #[.pointer (some ⟨gx, 0, none⟩), .pointer (some ⟨gc, 0, none⟩)]] 96 (0, 0))) (· = gc))]) (nx := 5) tt_ok Tryd.func75 rfl rfl rfl (by kernel_rfl) (HSat_args (vn_one (by simp [hb.ships.one, hb.sights.one, rd.one])) (by decide) ⟨⟨⟨fun _ => rfl, by decide, hb.ships⟩, (Nat.le_of_ble_eq_true rfl)⟩, ⟨⟨fun _ => rfl, by decide, hb.sights⟩, (Nat.le_of_ble_eq_true rfl)⟩, ⟨⟨fun _ => rfl, by decide, rd⟩, (Nat.le_of_ble_eq_true rfl)⟩, ⟨⟨hx, fun w1 w2 h1 hw => (hw gx rfl).trans h1, fun g hg => by cases hg; exact (Array.getElem?_eq_some_iff.1 hx).1⟩, (Nat.le_of_ble_eq_true rfl)⟩, ⟨⟨hc, fun w1 w2 h1 hw => (hw gc rfl).trans h1, fun g hg => by cases hg; exact (Array.getElem?_eq_some_iff.1 hc).1⟩, (Nat.le_of_ble_eq_true rfl)⟩, trivial⟩) (vsOk (by kernel_rfl)) ?_
    have hl2 := Reads.len rd
    refine WP_seq (WP_region (WPO_all tt_ok (by kernel_rfl) ?_))
    refine WP_seq (WP_region (WPO_all tt_ok (by kernel_rfl) ?_))
    refine WP_seq (WP_seq (WP_region (WPO_all tt_ok (by kernel_rfl) ?_)))
    refine WP_cond ((s.length : Int) == ((s.length + 0 : Nat) : Int)) (by kernel_rfl) (fun hc1 => ?_) (fun h => by rw [(show ((s.length : Int) == ((s.length + 0 : Nat) : Int)) = true from by simp)] at h; cases h)
    refine WP_seq (WP_region (WPO_run tt_ok 1 (by kernel_rfl) ?_))
    refine LDGo tt_ok 27 gx 0 (some 19) [.ref 0, .int .i64 b.hear.lo, .int .i64 b.hear.hi, .int .i64 b.br, .int .i64 b.cr, .int .i64 b.sl, .ref 1] 27 (.g [.ref 0, .int .i64 b.hear.lo, .int .i64 b.hear.hi, .int .i64 b.br, .int .i64 b.cr, .int .i64 b.sl, .ref 1]) (by kernel_rfl) (by kernel_rfl) (by kernel_rfl) (fun nV w h => (by have e0 : nV 0 = sv := h.ini 0 (by show 0 < 3; decide); have e1 : nV 1 = gv := h.ini 1 (by show 1 < 3; decide); have h3 := (h.ents (3, .pf (fun w => w.heap[gx]? = some (.cells #[sv, iv b.hear.lo, iv b.hear.hi, iv b.br, iv b.cr, iv b.sl, gv] 27 (0, 0))) (· = gx)) (fnd_mem (by kernel_rfl))).1; rw [← e0, ← e1] at h3; exact h3)) (by kernel_rfl) ?_
    refine WPO_run tt_ok 1 (by kernel_rfl) ?_
    refine CALLMAPS 73 [.g [.ref 0, .int .i64 b.hear.lo, .int .i64 b.hear.hi, .int .i64 b.br, .int .i64 b.cr, .int .i64 b.sl, .ref 1], .s (.ref 2)] (.g [.ref 0, .int .i64 b.hear.lo, .int .i64 b.hear.hi, .int .i64 b.br, .int .i64 b.cr, .int .i64 b.sl, .ref 1, .ref 5]) 100 encM (CanF b s) 5 (by kernel_rfl) (by kernel_rfl) (by kernel_rfl) (goes_of (by kernel_rfl)) (fun _ => (by kernel_rfl)) (fun _ => (by kernel_rfl)) (fun _ => rfl) (fun m w1 w2 h1 h2 => CanF.stab m w1 w2 h1 h2) (fun m w h1 => CanF.maps m w h1) (fun nV w h => (opened_calls (nV 0) (nV 1) (nV 2) b s w ⟨h.reads (id := 0) (kd := .ro) (e := 65) (by kernel_rfl), h.reads (id := 1) (kd := .ro) (e := 70) (by kernel_rfl)⟩ (h.reads (id := 2) (kd := .ro) (e := 3) (by kernel_rfl)) hv).mono fun e w' ⟨cv, m, h1, h2, h3, h4⟩ => ⟨cv, m, h1, h2, h4, h3.len, h3.at'⟩) (fun mp52 => ?_)
    refine CALL 74 [.g [.ref 0, .int .i64 b.hear.lo, .int .i64 b.hear.hi, .int .i64 b.br, .int .i64 b.cr, .int .i64 b.sl, .ref 1, .ref 5]] (.s (.bool (isTrueF b s))) [] (by kernel_rfl) (goes_of (by kernel_rfl)) (by kernel_rfl) (by kernel_rfl) (fun _ nV w h => isTrue_calls (nV 0) (nV 1) (nV 5) b s mp52 w ⟨h.reads (id := 0) (kd := .ro) (e := 65) (by kernel_rfl), h.reads (id := 1) (kd := .ro) (e := 70) (by kernel_rfl)⟩ (HSat_toK 5 6 .own h (by kernel_rfl) (by kernel_rfl))) ?_
    refine WPO_all tt_ok (by kernel_rfl) ?_
    refine WP_ret ?_
    exact ⟨.t [(false, [.ref 2]), (false, [.bool (isTrueF b s)])], by kernel_rfl, fun nV w' h => ⟨nV 2, by rfl, h.bel, h.reads (id := 2) (kd := .ro) (e := 3) (by kernel_rfl), fun g hg => .inl (by have e2 : nV 2 = tv := h.ini 2 (by show 2 < 3; decide); rw [← e2]; exact hg)⟩⟩
  | succ r ih =>
    intro s tv w hs hsr hb rd hx hc
    have hsl := hs.1
    have hbg := hv.nsights
    have hfl := frmW_le hv hs
    refine calls_of_WP (cx := cx0 w (vn [sv, gv, tv]) 3) (n := vn [sv, gv, tv]) (vs := [.s (.ref 2), .s (.int .i64 ((s.length + (r + 1) : Nat) : Int)), .s (.v (.pointer (some ⟨gx, 0, none⟩))), .s (.v (.pointer (some ⟨gc, 0, none⟩)))]) (hp := [(0, .sl .ro 65 5 b.ships encShip zShip), (1, .sl .ro 70 4 b.sights encSight zSight), (2, .sl .ro 3 1 s encI 0), (3, .pf (fun w => w.heap[gx]? = some (.cells #[sv, iv b.hear.lo, iv b.hear.hi, iv b.br, iv b.cr, iv b.sl, gv] 27 (0, 0))) (· = gx)), (4, .pf (fun w => w.heap[gc]? = some (.cells #[.func (.func 75) #[] #[.pointer (some ⟨gx, 0, none⟩), .pointer (some ⟨gc, 0, none⟩)]] 96 (0, 0))) (· = gc))]) (nx := 5) tt_ok Tryd.func75 rfl rfl rfl (by kernel_rfl) (HSat_args (vn_one (by simp [hb.ships.one, hb.sights.one, rd.one])) (by decide) ⟨⟨⟨fun _ => rfl, by decide, hb.ships⟩, (Nat.le_of_ble_eq_true rfl)⟩, ⟨⟨fun _ => rfl, by decide, hb.sights⟩, (Nat.le_of_ble_eq_true rfl)⟩, ⟨⟨fun _ => rfl, by decide, rd⟩, (Nat.le_of_ble_eq_true rfl)⟩, ⟨⟨hx, fun w1 w2 h1 hw => (hw gx rfl).trans h1, fun g hg => by cases hg; exact (Array.getElem?_eq_some_iff.1 hx).1⟩, (Nat.le_of_ble_eq_true rfl)⟩, ⟨⟨hc, fun w1 w2 h1 hw => (hw gc rfl).trans h1, fun g hg => by cases hg; exact (Array.getElem?_eq_some_iff.1 hc).1⟩, (Nat.le_of_ble_eq_true rfl)⟩, trivial⟩) (vsOk (by kernel_rfl)) ?_
    have hl2 := Reads.len rd
    refine WP_seq (WP_region (WPO_all tt_ok (by kernel_rfl) ?_))
    refine WP_seq (WP_region (WPO_all tt_ok (by kernel_rfl) ?_))
    refine WP_seq (WP_seq (WP_region (WPO_all tt_ok (by kernel_rfl) ?_)))
    refine WP_cond ((s.length : Int) == ((s.length + (r + 1) : Nat) : Int)) (by kernel_rfl) (fun h => by rw [(show ((s.length : Int) == ((s.length + (r + 1) : Nat) : Int)) = false from by simp; omega)] at h; cases h) (fun hc101 => ?_)
    refine WP_skip ?_
    refine WP_seq (WP_region (WPO_all tt_ok (by kernel_rfl) ?_))
    refine WP_seq (WP_seq (WP_region (WPO_all tt_ok (by kernel_rfl) ?_)))
    refine WP_join (decide ((s.length : Int) > 0)) (fun q => ⟨54, [(9, [], .s (.int .i64 (bif q then IntKind.i64.wrap ((s.getD (IntKind.i64.wrap ((s.length : Int) - 1)).toNat 0) + 1) else 0))), (8, [], .s (.int .i64 (s.length : Int))), (0, [], .s (.ref 2)), (1, [], .s (.int .i64 ((s.length + (r + 1) : Nat) : Int))), (2, [], .s (.v (.pointer (some ⟨gx, 0, none⟩)))), (3, [], .s (.v (.pointer (some ⟨gc, 0, none⟩))))], [(0, .sl .ro 65 5 b.ships encShip zShip), (1, .sl .ro 70 4 b.sights encSight zSight), (2, .sl .ro 3 1 s encI 0), (3, .pf (fun w => w.heap[gx]? = some (.cells #[sv, iv b.hear.lo, iv b.hear.hi, iv b.br, iv b.cr, iv b.sl, gv] 27 (0, 0))) (· = gx)), (4, .pf (fun w => w.heap[gc]? = some (.cells #[.func (.func 75) #[] #[.pointer (some ⟨gx, 0, none⟩), .pointer (some ⟨gc, 0, none⟩)]] 96 (0, 0))) (· = gc))], 5, []⟩) (by kernel_rfl) (fun hc103 => ?_) (fun hc103 => ?_) ?_
    · have hc103' := of_decide_eq_true hc103
      refine WP_region (WPO_run tt_ok 3 (by kernel_rfl) ?_)
      refine IX tt_ok (IntKind.i64.wrap ((s.length : Int) - 1)) s.length [] (by kernel_rfl) (fun hG => (by rw [wrapI (by omega) (by omega)]; constructor <;> omega)) ?_
      refine WPO_all tt_ok (by kernel_rfl) ?_
      exact Le_sel (ts := [9, 8, 0, 1, 2, 3]) (ids := [0, 1, 2, 3, 4]) (nx := 5) (by kernel_rfl)
    · have hc103' := of_decide_eq_false hc103
      refine WP_skip ?_
      exact Le_sel (ts := [9, 8, 0, 1, 2, 3]) (ids := [0, 1, 2, 3, 4]) (nx := 5) (by kernel_rfl)
    refine WP_seq (WP_seq (WP_region (WPO_all tt_ok (by kernel_rfl) ?_)))
    refine WP_block (WP_loop (σ := Int) (fun zz => ⟨54, [(10, [], .s (.int .i64 zz)), (8, [], .s (.int .i64 (s.length : Int))), (0, [], .s (.ref 2)), (1, [], .s (.int .i64 ((s.length + (r + 1) : Nat) : Int))), (2, [], .s (.v (.pointer (some ⟨gx, 0, none⟩)))), (3, [], .s (.v (.pointer (some ⟨gc, 0, none⟩))))], [(0, .sl .ro 65 5 b.ships encShip zShip), (1, .sl .ro 70 4 b.sights encSight zSight), (2, .sl .ro 3 1 s encI 0), (3, .pf (fun w => w.heap[gx]? = some (.cells #[sv, iv b.hear.lo, iv b.hear.hi, iv b.br, iv b.cr, iv b.sl, gv] 27 (0, 0))) (· = gx)), (4, .pf (fun w => w.heap[gc]? = some (.cells #[.func (.func 75) #[] #[.pointer (some ⟨gx, 0, none⟩), .pointer (some ⟨gc, 0, none⟩)]] 96 (0, 0))) (· = gc))], 5, []⟩) (fun zz => ∃ q : Nat, zz = q ∧ frmW s ≤ q ∧ q ≤ b.sights.length ∧ ∀ p, frmW s ≤ p → p < q → (chooseW b r (s ++ [(p : Int)])).2 = false) (fun zz => b.sights.length - zz.toNat) (bif (decide ((s.length : Int) > 0)) then IntKind.i64.wrap ((s.getD (IntKind.i64.wrap ((s.length : Int) - 1)).toNat 0) + 1) else 0) (⟨frmW s, frmW_eq hv hs, Nat.le_refl _, hfl, fun p h1 h2 => by omega⟩) (Le_sel (ts := [10, 8, 0, 1, 2, 3]) (ids := [0, 1, 2, 3, 4]) (nx := 5) (by kernel_rfl)) ?_)
    rintro n hinv
    obtain ⟨q, hn, hq1, hq2, hno⟩ := hinv
    subst hn
    refine WP_seq (WP_seq (WP_region (WPO_run tt_ok 2 (by kernel_rfl) ?_)))
    refine LDGo tt_ok 25 gx 6 (some 34) [.ref 0, .int .i64 b.hear.lo, .int .i64 b.hear.hi, .int .i64 b.br, .int .i64 b.cr, .int .i64 b.sl, .ref 1] 27 (.s (.ref 1)) (by kernel_rfl) (by kernel_rfl) (by kernel_rfl) (fun nV w h => (by have e0 : nV 0 = sv := h.ini 0 (by show 0 < 3; decide); have e1 : nV 1 = gv := h.ini 1 (by show 1 < 3; decide); have h3 := (h.ents (3, .pf (fun w => w.heap[gx]? = some (.cells #[sv, iv b.hear.lo, iv b.hear.hi, iv b.br, iv b.cr, iv b.sl, gv] 27 (0, 0))) (· = gx)) (fnd_mem (by kernel_rfl))).1; rw [← e0, ← e1] at h3; exact h3)) (by kernel_rfl) ?_
    refine WPO_all tt_ok (by kernel_rfl) ?_
    refine WP_cond (decide ((q : Int) < (b.sights.length : Int))) (by kernel_rfl) (fun hc105 => ?_) (fun hc105 => ?_)
    · have hc105' := of_decide_eq_true hc105
      replace hq2 : q < b.sights.length := by omega
      have hcut : cut s 0 (s.length : Int) = s := by simp [cut]
      have hcl : (cut s 0 (s.length : Int)).length = s.length := by rw [hcut]
      have ih0 : ∀ (tv1 : Value) (w : World), BookAt w sv gv b → Reads w tv1 1 (cut s 0 (s.length : Int) ++ [(q : Int)]) encI 0 → (fun w => w.heap[gx]? = some (.cells #[sv, iv b.hear.lo, iv b.hear.hi, iv b.br, iv b.cr, iv b.sl, gv] 27 (0, 0))) w → (fun w => w.heap[gc]? = some (.cells #[.func (.func 75) #[] #[.pointer (some ⟨gx, 0, none⟩), .pointer (some ⟨gc, 0, none⟩)]] 96 (0, 0))) w → Calls Tryd.prog 75 #[tv1, iv (s.length + (r + 1) : Nat), .pointer (some ⟨gx, 0, none⟩), .pointer (some ⟨gc, 0, none⟩)] w fun e w' => ∃ v, e = .returned (.tuple #[v, .bool (chooseW b r (cut s 0 (s.length : Int) ++ [(q : Int)])).2]) ∧ Below w.heap.size w w' ∧ Reads w' v 1 (chooseW b r (cut s 0 (s.length : Int) ++ [(q : Int)])).1 encI 0 ∧ (∀ g, vblk v = some g → vblk tv1 = some g ∨ (w.heap.size ≤ g ∧ g < w'.heap.size)) := by
        rw [hcut]; intro tv1 w h1 h2 h3 h4
        have h5 := ih (s ++ [(q : Int)]) tv1 w (somes_snoc hs hq2 (by omega)) (by simp; omega) h1 h2 h3 h4
        rwa [show (s ++ [(q : Int)]).length + r = s.length + (r + 1) from by simp; omega] at h5
      refine WP_skip ?_
      refine WP_seq (WP_block ?_)
      refine WP_seq (WP_toX (σ := Value) (fun sv1 => ⟨54, [(12, [], .s (.bool (chooseW b r ((cut s 0 (s.length : Int)) ++ ([(q : Int)]))).2)), (11, [], .s (.v sv1)), (10, [], .s (.int .i64 (q : Int))), (8, [], .s (.int .i64 (s.length : Int))), (0, [], .s (.ref 2)), (1, [], .s (.int .i64 ((s.length + (r + 1) : Nat) : Int))), (2, [], .s (.v (.pointer (some ⟨gx, 0, none⟩)))), (3, [], .s (.v (.pointer (some ⟨gc, 0, none⟩))))], [(8, slE sv1 1 (chooseW b r ((cut s 0 (s.length : Int)) ++ ([(q : Int)]))).1 encI 0), (0, .sl .ro 65 5 b.ships encShip zShip), (1, .sl .ro 70 4 b.sights encSight zSight), (2, .sl .ro 3 1 s encI 0), (3, .pf (fun w => w.heap[gx]? = some (.cells #[sv, iv b.hear.lo, iv b.hear.hi, iv b.br, iv b.cr, iv b.sl, gv] 27 (0, 0))) (· = gx)), (4, .pf (fun w => w.heap[gc]? = some (.cells #[.func (.func 75) #[] #[.pointer (some ⟨gx, 0, none⟩), .pointer (some ⟨gc, 0, none⟩)]] 96 (0, 0))) (· = gc))], 9, []⟩) ?_ ?_)
      · refine WP_drawH [] (by kernel_rfl) (by kernel_rfl) ?_
        refine H_LDG tt_ok 0 96 gc 0 (some 40) [.v (.func (.func 75) #[] #[.pointer (some ⟨gx, 0, none⟩), .pointer (some ⟨gc, 0, none⟩)])] 96 (.s (.v (.func (.func 75) #[] #[.pointer (some ⟨gx, 0, none⟩), .pointer (some ⟨gc, 0, none⟩)]))) (by kernel_rfl) (by kernel_rfl) (by kernel_rfl) (fun _ nV w h => (h.ents (4, .pf (fun w => w.heap[gc]? = some (.cells #[.func (.func 75) #[] #[.pointer (some ⟨gx, 0, none⟩), .pointer (some ⟨gc, 0, none⟩)]] 96 (0, 0))) (· = gc)) (fnd_mem (by kernel_rfl))).1) (by kernel_rfl) (by kernel_rfl) (by kernel_rfl) ?_
        refine H_run tt_ok [1, 2, 3, 5, 8] (f' := 9) (by kernel_rfl) (by kernel_rfl) (by kernel_rfl) ?_
        refine H_two 4 6 (by kernel_rfl) (by kernel_rfl) (by kernel_rfl) (fun hfz cx' hx1 hx2 => ?_) (fun hfz cx' hx1 hx2 => ?_)
        · refine SLC tt_ok 2 s.length .ro 3 1 0 (s.length : Int) (some (s.length : Int)) .full (some 44) (by kernel_rfl) (by kernel_rfl) ⟨by omega, by omega, by omega⟩ (.inr ⟨rfl, rfl⟩) ?_
          refine WPO_end (by kernel_rfl) ⟨rfl, (hfz.fnds [0, 1, 2, 3, 4] (by kernel_rfl) ⟨by kernel_rfl, by kernel_rfl, by kernel_rfl, by kernel_rfl, by kernel_rfl, trivial⟩ (by kernel_rfl)), ?_⟩
          refine H_step 6 (by kernel_rfl) (by kernel_rfl) (fun hfz cx' hx1 hx2 => ?_)
          refine LIT tt_ok (by kernel_rfl) ?_
          refine LITSL 6 3 1 1 [.int .i64 (q : Int)] [(q : Int)] encI 0 (by kernel_rfl) rfl (fun _ => rfl) (fun n => rfl) ?_
          refine WPO_end (by kernel_rfl) ⟨rfl, (hfz.fnds [0, 1, 2, 3, 4] (by kernel_rfl) ⟨by kernel_rfl, by kernel_rfl, by kernel_rfl, by kernel_rfl, by kernel_rfl, trivial⟩ (by kernel_rfl)), ?_⟩
          refine H_step 7 (by kernel_rfl) (by kernel_rfl) (fun hfz cx' hx1 hx2 => ?_)
          refine APP tt_ok (.s (.ref 5)) (.s (.ref 6)) 37 3 (some 47) 1 (cut s 0 (s.length : Int)) ([(q : Int)]) encI 0 (by kernel_rfl) (by kernel_rfl) (by kernel_rfl) (by kernel_rfl) (.inr (.inr ⟨5, rfl, (by kernel_rfl)⟩)) (.inr ⟨6, .own, rfl, (by kernel_rfl), (by simp only [List.length_cons, List.length_nil]; omega)⟩) (by simp) (fun y => rfl) (fun y => List.all_eq_true.1 rfl) (fun i hi => (by have hby : (tyL tt 3).map (·.bytes) = some 8 := (by kernel_rfl); rw [hi] at hby; simp only [Option.map_some, Option.some.injEq] at hby; rw [hby]; simp only [List.length_append, List.length_cons, List.length_nil]; omega)) ?_
          refine WPO_end (by kernel_rfl) ⟨rfl, (hfz.fnds [0, 1, 2, 3, 4] (by kernel_rfl) ⟨by kernel_rfl, by kernel_rfl, by kernel_rfl, by kernel_rfl, by kernel_rfl, trivial⟩ (by kernel_rfl)), ?_⟩
          refine H_step 9 (by kernel_rfl) (by kernel_rfl) (fun hfz cx' hx1 hx2 => ?_)
          refine CALLTK 75 [.s (.ref 7), .s (.int .i64 ((s.length + (r + 1) : Nat) : Int)), .s (.v (.pointer (some ⟨gx, 0, none⟩))), .s (.v (.pointer (some ⟨gc, 0, none⟩)))] (fun sv3 => .t [(false, [.v sv3]), (false, [.bool (chooseW b r ((cut s 0 (s.length : Int)) ++ ([(q : Int)]))).2])]) 7 3 1 ((cut s 0 (s.length : Int)) ++ ([(q : Int)])) encI 0 1 (chooseW b r ((cut s 0 (s.length : Int)) ++ ([(q : Int)]))).1 encI 0 (by kernel_rfl) (by kernel_rfl) (goes_of (by kernel_rfl)) (fun _ => (by kernel_rfl)) (fun _ => (by kernel_rfl)) (fun _ _ _ => rfl) (fun nV w h => (by have e0 : nV 0 = sv := (h.ini 0 (Nat.lt_of_lt_of_le (by show 0 < 3; decide) hx2.2.2)).trans (hx2.2.1 0 (by show 0 < 3; decide)); have e1 : nV 1 = gv := (h.ini 1 (Nat.lt_of_lt_of_le (by show 1 < 3; decide) hx2.2.2)).trans (hx2.2.1 1 (by show 1 < 3; decide)); exact ih0 (nV 7) w (by rw [← e0, ← e1]; exact ⟨h.reads (id := 0) (kd := .ro) (e := 65) (by kernel_rfl), h.reads (id := 1) (kd := .ro) (e := 70) (by kernel_rfl)⟩) (h.reads (id := 7) (kd := .own) (e := 3) (by kernel_rfl)) (h.ents (3, .pf (fun w => w.heap[gx]? = some (.cells #[sv, iv b.hear.lo, iv b.hear.hi, iv b.br, iv b.cr, iv b.sl, gv] 27 (0, 0))) (· = gx)) (fnd_mem (by kernel_rfl))).1 (h.ents (4, .pf (fun w => w.heap[gc]? = some (.cells #[.func (.func 75) #[] #[.pointer (some ⟨gx, 0, none⟩), .pointer (some ⟨gc, 0, none⟩)]] 96 (0, 0))) (· = gc)) (fnd_mem (by kernel_rfl))).1)) (fun sv3 => ?_)
          refine WPO_end (by kernel_rfl) ⟨rfl, (hfz.fnds [0, 1, 2, 3, 4] (by kernel_rfl) ⟨by kernel_rfl, by kernel_rfl, by kernel_rfl, by kernel_rfl, by kernel_rfl, trivial⟩ (by kernel_rfl)), ?_⟩
          refine H_run tt_ok [10, 11, 12, 13, 14] (f' := 0) (by kernel_rfl) (by kernel_rfl) (by kernel_rfl) ?_
          refine H_done (by kernel_rfl) ?_
          exact ⟨sv3, Le_sel (ts := [12, 11, 10, 8, 0, 1, 2, 3]) (ids := [8, 0, 1, 2, 3, 4]) (nx := 9) (by kernel_rfl)⟩
        · refine LIT tt_ok (by kernel_rfl) ?_
          refine LITSL 5 3 1 1 [.int .i64 (q : Int)] [(q : Int)] encI 0 (by kernel_rfl) rfl (fun _ => rfl) (fun n => rfl) ?_
          refine WPO_end (by kernel_rfl) ⟨rfl, (hfz.fnds [0, 1, 2, 3, 4] (by kernel_rfl) ⟨by kernel_rfl, by kernel_rfl, by kernel_rfl, by kernel_rfl, by kernel_rfl, trivial⟩ (by kernel_rfl)), ?_⟩
          refine H_step 4 (by kernel_rfl) (by kernel_rfl) (fun hfz cx' hx1 hx2 => ?_)
          refine SLC tt_ok 2 s.length .ro 3 1 0 (s.length : Int) (some (s.length : Int)) .full (some 44) (by kernel_rfl) (by kernel_rfl) ⟨by omega, by omega, by omega⟩ (.inr ⟨rfl, rfl⟩) ?_
          refine WPO_end (by kernel_rfl) ⟨rfl, (hfz.fnds [0, 1, 2, 3, 4] (by kernel_rfl) ⟨by kernel_rfl, by kernel_rfl, by kernel_rfl, by kernel_rfl, by kernel_rfl, trivial⟩ (by kernel_rfl)), ?_⟩
          refine H_step 7 (by kernel_rfl) (by kernel_rfl) (fun hfz cx' hx1 hx2 => ?_)
          refine APP tt_ok (.s (.ref 6)) (.s (.ref 5)) 37 3 (some 47) 1 (cut s 0 (s.length : Int)) ([(q : Int)]) encI 0 (by kernel_rfl) (by kernel_rfl) (by kernel_rfl) (by kernel_rfl) (.inr (.inr ⟨6, rfl, (by kernel_rfl)⟩)) (.inr ⟨5, .own, rfl, (by kernel_rfl), (by simp only [List.length_cons, List.length_nil]; omega)⟩) (by simp) (fun y => rfl) (fun y => List.all_eq_true.1 rfl) (fun i hi => (by have hby : (tyL tt 3).map (·.bytes) = some 8 := (by kernel_rfl); rw [hi] at hby; simp only [Option.map_some, Option.some.injEq] at hby; rw [hby]; simp only [List.length_append, List.length_cons, List.length_nil]; omega)) ?_
          refine WPO_end (by kernel_rfl) ⟨rfl, (hfz.fnds [0, 1, 2, 3, 4] (by kernel_rfl) ⟨by kernel_rfl, by kernel_rfl, by kernel_rfl, by kernel_rfl, by kernel_rfl, trivial⟩ (by kernel_rfl)), ?_⟩
          refine H_step 9 (by kernel_rfl) (by kernel_rfl) (fun hfz cx' hx1 hx2 => ?_)
          refine CALLTK 75 [.s (.ref 7), .s (.int .i64 ((s.length + (r + 1) : Nat) : Int)), .s (.v (.pointer (some ⟨gx, 0, none⟩))), .s (.v (.pointer (some ⟨gc, 0, none⟩)))] (fun sv4 => .t [(false, [.v sv4]), (false, [.bool (chooseW b r ((cut s 0 (s.length : Int)) ++ ([(q : Int)]))).2])]) 7 3 1 ((cut s 0 (s.length : Int)) ++ ([(q : Int)])) encI 0 1 (chooseW b r ((cut s 0 (s.length : Int)) ++ ([(q : Int)]))).1 encI 0 (by kernel_rfl) (by kernel_rfl) (goes_of (by kernel_rfl)) (fun _ => (by kernel_rfl)) (fun _ => (by kernel_rfl)) (fun _ _ _ => rfl) (fun nV w h => (by have e0 : nV 0 = sv := (h.ini 0 (Nat.lt_of_lt_of_le (by show 0 < 3; decide) hx2.2.2)).trans (hx2.2.1 0 (by show 0 < 3; decide)); have e1 : nV 1 = gv := (h.ini 1 (Nat.lt_of_lt_of_le (by show 1 < 3; decide) hx2.2.2)).trans (hx2.2.1 1 (by show 1 < 3; decide)); exact ih0 (nV 7) w (by rw [← e0, ← e1]; exact ⟨h.reads (id := 0) (kd := .ro) (e := 65) (by kernel_rfl), h.reads (id := 1) (kd := .ro) (e := 70) (by kernel_rfl)⟩) (h.reads (id := 7) (kd := .own) (e := 3) (by kernel_rfl)) (h.ents (3, .pf (fun w => w.heap[gx]? = some (.cells #[sv, iv b.hear.lo, iv b.hear.hi, iv b.br, iv b.cr, iv b.sl, gv] 27 (0, 0))) (· = gx)) (fnd_mem (by kernel_rfl))).1 (h.ents (4, .pf (fun w => w.heap[gc]? = some (.cells #[.func (.func 75) #[] #[.pointer (some ⟨gx, 0, none⟩), .pointer (some ⟨gc, 0, none⟩)]] 96 (0, 0))) (· = gc)) (fnd_mem (by kernel_rfl))).1)) (fun sv4 => ?_)
          refine WPO_end (by kernel_rfl) ⟨rfl, (hfz.fnds [0, 1, 2, 3, 4] (by kernel_rfl) ⟨by kernel_rfl, by kernel_rfl, by kernel_rfl, by kernel_rfl, by kernel_rfl, trivial⟩ (by kernel_rfl)), ?_⟩
          refine H_run tt_ok [10, 11, 12, 13, 14] (f' := 0) (by kernel_rfl) (by kernel_rfl) (by kernel_rfl) ?_
          refine H_done (by kernel_rfl) ?_
          exact ⟨sv4, Le_sel (ts := [12, 11, 10, 8, 0, 1, 2, 3]) (ids := [8, 0, 1, 2, 3, 4]) (nx := 9) (by kernel_rfl)⟩
      intro sv1
      refine WP_seq (WP_region (WPO_all tt_ok (by kernel_rfl) ?_))
      refine WP_cond ((chooseW b r ((cut s 0 (s.length : Int)) ++ ([(q : Int)]))).2) (by kernel_rfl) (fun hc107 => ?_) (fun hc107 => ?_)
      · refine WP_seq (WP_region (WPO_all tt_ok (by kernel_rfl) ?_))
        refine WP_ret ?_
        exact ⟨.t [(false, [.v sv1]), (false, [.bool true])], by kernel_rfl, fun nV w' h => ⟨sv1, by rw [choose_some hno hq1 hq2 (by rw [← hcut]; exact hc107)]; rw [← hcut]; rfl, h.bel, by rw [choose_some hno hq1 hq2 (by rw [← hcut]; exact hc107), ← hcut]; exact (slE_lt (id := 8) (v := sv1) (sz := 1) (li := (chooseW b r ((cut s 0 (s.length : Int)) ++ ([(q : Int)]))).1) (enc := encI) (z := 0) h (by kernel_rfl)).1, fun g hg => .inr ((slE_lt (id := 8) (v := sv1) (sz := 1) (li := (chooseW b r ((cut s 0 (s.length : Int)) ++ ([(q : Int)]))).1) (enc := encI) (z := 0) h (by kernel_rfl)).2 g hg)⟩⟩
      refine WP_skip ?_
      refine WP_region (WPO_all tt_ok (by kernel_rfl) ?_)
      refine ⟨(IntKind.i64.wrap ((q : Int) + 1)), ?_, ?_, Le_sel (ts := [10, 8, 0, 1, 2, 3]) (ids := [0, 1, 2, 3, 4]) (nx := 5) (by kernel_rfl)⟩
      · refine ⟨q + 1, by rw [wrapI (by omega) (by omega)]; rfl, by omega, by omega, fun p h1 h2 => ?_⟩
        by_cases e : p = q
        · subst e; rw [hcut] at hc107; exact hc107
        · exact hno p h1 (by omega)
      · rw [wrapI (by omega) (by omega)]
        omega
    have hc105' := of_decide_eq_false hc105
    refine WP_exit ?_
    obtain rfl : q = b.sights.length := by omega
    replace hno : ∀ p, frmW s ≤ p → p < b.sights.length → (chooseW b r (s ++ [(p : Int)])).2 = false := hno
    refine WP_seq (WP_region (WPO_all tt_ok (by kernel_rfl) ?_))
    refine WP_ret ?_
    exact ⟨.t [(false, [.v (.slice none 0 0)]), (false, [.bool false])], by kernel_rfl, fun nV w' h => ⟨.slice none 0 0, by rw [choose_none hno]; rfl, h.bel, by rw [choose_none hno]; exact reads_nil, fun g hg => by cases hg⟩⟩
end Go.Proofs.YtamimgmoomcipaaDoor.Fw
