/- Parts of the proof of DeckKnown: the engine, contracts of functions, plain lemmas. -/
import Derived.Test.YthfnedbpmdkdjaaDoorDeckKnownA0
import Derived.ArgAppend
import Derived.Below
import Derived.Carry
import Derived.ChangeKeysEq
import Derived.ControlIn
import Derived.Deep.DeepHandedRow
import Derived.Deep.Draws
import Derived.Deep.Quiet
import Derived.Deep.Slices
import Derived.KernelRfl
import Derived.Laws.AppendOwn
import Derived.Laws.Cells
import Derived.Laws.CopyRow
import Derived.Laws.IdiomRangeMap
import Derived.Laws.Rows
import Derived.MapKept
import Derived.Maps.AppendAt
import Derived.OpenShut
import Derived.OrdersHeld
import Derived.OrdersIn
import Derived.ProofKit
import Derived.RangeFuncLeaves
import Derived.RangeFuncNested
import Derived.RangeFuncOwn
import Derived.SizedLaws
import Derived.Test.YthfnedbpmdkdjaaDoorProg
import Derived.Test.YthfnedbpmdkdjaaDoorRows
import Derived.WalkKit
import Derived.WideKeyRuns
namespace Go.Proofs.YthfnedbpmdkdjaaDoor.Eng
open Go Go.RowKit
set_option linter.unusedVariables false
set_option linter.unusedSimpArgs false
abbrev Sep (n : Vn) (x y : Nat × HE) : Prop := (x.2.mut = true ∨ y.2.mut = true) → ∀ g, x.2.foot (n x.1) g → ¬ y.2.foot (n y.1) g
structure MSat (ok : Nat → Prop) (n : Vn) (M : List (Nat × HE)) (w : World) (G : Nat → Prop) : Prop where
  ents : ∀ x ∈ M, x.2.sat n ok w (n x.1)
  sep : M.Pairwise (Sep n)
  foot : ∀ g, G g ↔ ∃ x ∈ M, x.2.foot (n x.1) g
  here : ∀ g, G g → (w.heap[g]?).isSome = true
theorem MSat.move {ok : Nat → Prop} {n : Vn} {M : List (Nat × HE)} {w w' : World} {G : Nat → Prop} (h : MSat ok n M w G) (hw : ∀ g, G g → w'.heap[g]? = w.heap[g]?) : MSat ok n M w' G :=
  ⟨fun x hx => HE.sat_move (h.ents x hx) fun g hg => hw g ((h.foot g).2 ⟨x, hx, hg⟩), h.sep, h.foot, fun g hg => by rw [hw g hg]; exact h.here g hg⟩
theorem lt_of_some {w : World} {g : Nat} (h : (w.heap[g]?).isSome = true) : g < w.heap.size := by
  obtain ⟨o, ho⟩ := Option.isSome_iff_exists.1 h
  exact (Array.getElem?_eq_some_iff.1 ho).1
theorem some_of_lt {w : World} {g : Nat} (h : g < w.heap.size) : (w.heap[g]?).isSome = true := by
  rw [Array.getElem?_eq_getElem h]; rfl
theorem assemble {cx : Cx} {n nL : Vn} {m nt : Nat} {df : List Nat} {MU ro : List (Nat × HE)} {w : World} {G : Nat → Prop} {okA okR : Nat → Prop} (hfr : Fr cx.w0 cx.ok w) (hini : ∀ id, id < cx.m0 → n id = cx.n0 id) (hm0 : cx.m0 ≤ m) (hag : ∀ id, id < m → n id = nL id)
    (one : ∀ id, (n id).oneCell' = true) (hM : MSat okA n MU w G) (hok : ∀ g, G g → cx.ok g) (hRF : ∀ x ∈ ro, x.2.sat nL okR w (nL x.1)) (hGR : ∀ x ∈ ro, ∀ g, x.2.foot (nL x.1) g → (w.heap[g]?).isSome = true ∧ ¬ G g) (hro : ∀ x ∈ ro, x.2.mut = false)
    (hoks : ∀ x ∈ MU ++ ro, x.2.ok ⟨nt, [], MU ++ ro, m, df⟩) (hids : ∀ x ∈ MU ++ ro, x.1 < m) : HSat cx n ⟨nt, [], MU ++ ro, m, df⟩ w := by
  have hidr : ∀ x ∈ ro, n x.1 = nL x.1 := fun x hx => hag _ (hids x (List.mem_append_right _ hx))
  refine ⟨hfr, hini, hm0, one, fun x hx => ?_, hoks, ?_, fun x hx g hg => ?_, hids⟩
  · rcases List.mem_append.1 hx with hx' | hx'
    · exact HE.sat_ok (hM.ents x hx') fun _ g hg => hok g ((hM.foot g).2 ⟨x, hx', hg⟩)
    · rw [hidr x hx']
      exact HE.sat_ok (HE.sat_congr (hoks x hx) (fun id hid => hag id hid) (hRF x hx')) fun hm => by rw [hro x hx'] at hm; cases hm
  · refine List.pairwise_append.2 ⟨hM.sep, ?_, fun x hx y hy hm g hg hgy => ?_⟩
    · exact List.pairwise_of_forall_mem_list fun x hx y hy hm => by rw [hro x hx, hro y hy] at hm; rcases hm with h | h <;> cases h
    · rw [hidr y hy] at hgy
      exact (hGR y hy g hgy).2 ((hM.foot g).2 ⟨x, hx, hg⟩)
  · rcases List.mem_append.1 hx with hx' | hx'
    · exact lt_of_some (hM.here g ((hM.foot g).2 ⟨x, hx', hg⟩))
    · rw [hidr x hx'] at hg
      exact lt_of_some (hGR x hx' g hg).1
def FP (n : Vn) (M : List (Nat × HE)) (g : Nat) : Prop := ∃ x ∈ M, x.2.foot (n x.1) g
theorem HSat.msat {cx : Cx} {n : Vn} {nt m : Nat} {E : List (Nat × List (Nat × Bool) × AV)} {df : List Nat} {MU ro : List (Nat × HE)} {w : World} (h : HSat cx n ⟨nt, E, MU ++ ro, m, df⟩ w) : MSat cx.ok n MU w (FP n MU) :=
  ⟨fun x hx => h.ents x (List.mem_append_left _ hx), (List.pairwise_append.1 h.sep).1, fun g => Iff.rfl, fun g ⟨x, hx, hg⟩ => some_of_lt (h.lt x (List.mem_append_left _ hx) g hg)⟩
theorem HSat.pick {cx : Cx} {n : Vn} {s : AS} {w : World} (h : HSat cx n s w) {l : List (Nat × HE)} (hs : SubP s.hp l) (hu : uniq l = true) (nt : Nat) (df : List Nat) : HSat cx n ⟨nt, [], l, s.nx, df⟩ w := by
  have hin : ∀ x ∈ l, x ∈ s.hp := fun x hx => fnd_mem (hs.all x hx)
  refine ⟨h.fr, h.ini, h.inx, h.one, fun x hx => h.ents x (hin x hx), fun x hx => HE.ok_fz (s0 := ⟨nt, [], l, s.nx, df⟩) (h.oks x (hin x hx)) ⟨Nat.le_refl _, hs, hu⟩ rfl, ?_, fun x hx => h.lt x (hin x hx), fun x hx => h.ids x (hin x hx)⟩
  refine (uniq_spec hu).imp_of_mem fun {x y} hx hy hne => ?_
  have hsym : ∀ (x y : Nat × HE), Sep n x y → Sep n y x := fun x y h hm g h1 h2 => h hm.symm g h2 h1
  exact pw_mem hsym h.sep (hin x hx) (hin y hy) (fun e => hne (congrArg (·.1) e))
def putAll : AS → List (Nat × AV) → Option AS
  | s, [] => some s
  | s, x :: r => match s.put (some x.1) [] x.2 with
    | some s' => putAll s' r
    | none => none
theorem putAll_sat {cx : Cx} {n : Vn} {w : World} {df : List Deferred} : ∀ (l : List (Nat × AV)) (s s' : AS) (tmps : Array Value), Sat cx n s ⟨tmps, df⟩ w → putAll s l = some s' → (∀ x ∈ l, okB s x.2 = true) →
    Sat cx n s' ⟨(l.map fun x => (x.1, x.2.c n)).foldl (fun t x => t.setIfInBounds x.1 x.2) tmps, df⟩ w
  | [], s, s', tmps, hs, h, _ => by simp only [putAll] at h; cases h; exact hs
  | x :: r, s, s', tmps, hs, h, hok => by
    simp only [putAll] at h
    split at h
    · rename_i s1 h1
      have hH : Holds ⟨tmps, df⟩ [] := fun x hx => by cases hx
      have h2 := put_sat (x := x.2.c n) hs h1 (fun _ => ⟨rfl, okB_sound (hok x List.mem_cons_self)⟩) (fun hn => absurd hH hn)
      have hsame := put_same h1
      have hokk : ∀ v : AV, okB s v = okB s1 v := fun v => by
        have hc : ∀ c, okB.c1 s c = okB.c1 s1 c := fun c => by cases c <;> simp only [okB.c1, hsame.2.1]
        have hcl : ∀ cs, okB.cl s cs = okB.cl s1 cs := fun cs => by induction cs with | nil => rfl | cons c r ih => simp only [okB.cl, hc, ih]
        cases v with
        | s c => exact hc c
        | g cs => exact hcl cs
        | t vs => simp only [okB]; induction vs with | nil => rfl | cons c r ih => simp only [okB.tl, hcl, ih]
      exact putAll_sat r s1 s' _ h2 h (fun y hy => by rw [← hokk]; exact hok y (List.mem_cons_of_mem _ hy))
    · cases h
def envSel (s : AS) : List Nat → Option (List (Nat × List (Nat × Bool) × AV))
  | [] => some []
  | t :: r => match look s.env t, envSel s r with
    | some ([], v), some l => bif okB s v then some ((t, [], v) :: l) else none
    | _, _ => none
theorem envSel_spec {s : AS} {ts : List Nat} {l : List (Nat × List (Nat × Bool) × AV)} (h : envSel s ts = some l) : ∀ x ∈ l, x ∈ s.env ∧ x.2.1 = [] ∧ okB s x.2.2 = true := by
  induction ts generalizing l with
  | nil => simp only [envSel] at h; cases h; intro x hx; cases hx
  | cons t r ih =>
    simp only [envSel] at h
    split at h
    · rename_i v l' hv hl
      rcases hb : okB s v with _ | _
      · rw [hb] at h; cases h
      · rw [hb] at h; cases h
        intro x hx
        rcases List.mem_cons.1 hx with rfl | hx
        · exact ⟨look_mem hv, rfl, hb⟩
        · exact ih hl x hx
    · cases h
theorem okB_nx {s s1 : AS} (h : s.nx ≤ s1.nx) {v : AV} (hv : okB s v = true) : okB s1 v = true := by
  have hc : ∀ c, okB.c1 s c = true → okB.c1 s1 c = true := fun c hc => by
    cases c <;> simp only [okB.c1] at * <;> first | exact Nat.ble_eq_true_of_le (Nat.le_trans (Nat.le_of_ble_eq_true hc) h) | exact hc
  have hcl : ∀ cs, okB.cl s cs = true → okB.cl s1 cs = true := fun cs => by
    induction cs with
    | nil => intro _; rfl
    | cons c r ih => intro h; simp only [okB.cl, Bool.and_eq_true] at *; exact ⟨hc c h.1, ih h.2⟩
  cases v with
  | s c => exact hc c hv
  | g cs => exact hcl cs hv
  | t vs =>
    simp only [okB] at *
    induction vs with
    | nil => rfl
    | cons c r ih => simp only [okB.tl, Bool.and_eq_true] at *; exact ⟨hcl _ hv.1, ih hv.2⟩
def heOk (s : AS) : HE → Bool
  | .box _ cs => okB.cl s cs
  | .lit _ _ cs => okB.cl s cs
  | .clo _ u v => go u && go v
  | _ => true
where go : List AV → Bool
  | [] => true
  | v :: r => okB s v && go r
theorem heOk_go {s : AS} {u : List AV} (h : heOk.go s u = true) : ∀ x ∈ u, okB s x = true := by
  induction u with
  | nil => intro x hx; cases hx
  | cons v r ih =>
    simp only [heOk.go, Bool.and_eq_true] at h
    intro x hx
    rcases List.mem_cons.1 hx with rfl | hx
    · exact h.1
    · exact ih h.2 x hx
theorem heOk_sound {s s1 : AS} (hn : s.nx ≤ s1.nx) {e : HE} (h : heOk s e = true) : e.ok s1 := by
  have hcl : ∀ cs, okB.cl s cs = true → cellsOk s1 cs := fun cs h => by
    have : okB s (.g cs) = true := h
    exact okB_sound (v := .g cs) (okB_nx hn this)
  cases e with
  | box ty cs => exact hcl cs h
  | lit e m cs => exact hcl cs h
  | clo f u v =>
    simp only [heOk, Bool.and_eq_true] at h
    exact ⟨fun x hx => okB_sound (okB_nx hn (heOk_go h.1 x hx)), fun x hx => okB_sound (okB_nx hn (heOk_go h.2 x hx))⟩
  | _ => trivial
def mOk (s : AS) (nx : Nat) : List (Nat × HE) → Bool
  | [] => true
  | x :: r => x.2.mut && heOk s x.2 && Nat.ble (x.1 + 1) nx && mOk s nx r
def rOk (s : AS) (nx : Nat) : List (Nat × HE) → Bool
  | [] => true
  | x :: r => !x.2.mut && heOk s x.2 && Nat.ble (x.1 + 1) nx && rOk s nx r
theorem mOk_spec {s : AS} {nx : Nat} {l : List (Nat × HE)} (h : mOk s nx l = true) : ∀ x ∈ l, x.2.mut = true ∧ heOk s x.2 = true ∧ x.1 < nx := by
  induction l with
  | nil => intro x hx; cases hx
  | cons y r ih =>
    simp only [mOk, Bool.and_eq_true] at h
    intro x hx
    rcases List.mem_cons.1 hx with rfl | hx
    · exact ⟨h.1.1.1, h.1.1.2, Nat.le_of_ble_eq_true h.1.2⟩
    · exact ih h.2 x hx
theorem rOk_spec {s : AS} {nx : Nat} {l : List (Nat × HE)} (h : rOk s nx l = true) : ∀ x ∈ l, x.2.mut = false ∧ heOk s x.2 = true ∧ x.1 < nx := by
  induction l with
  | nil => intro x hx; cases hx
  | cons y r ih =>
    simp only [rOk, Bool.and_eq_true, Bool.not_eq_true'] at h
    intro x hx
    rcases List.mem_cons.1 hx with rfl | hx
    · exact ⟨h.1.1.1, h.1.1.2, Nat.le_of_ble_eq_true h.1.2⟩
    · exact ih h.2 x hx
def IterOk (P : Program) {α : Type} (gf : Nat) (caps : List AV) (it ro : List (Nat × HE)) (nx : Nat) (encs : α → Array Value) (xs : List α) : Prop :=
  ∀ (cx : Cx) (n : Vn) (w : World) (L : Nat) (RF : World → Prop) (GR : Nat → Prop) (J Jx : List α → (Nat → Prop) → World → Prop) (G0 : Nat → Prop), Stab J → Stab Jx → YieldOk P L encs xs RF J Jx →
    HSat cx n ⟨0, [], (nx, .jf (J [] G0) G0) :: (nx + 1, .pf RF GR) :: (it ++ ro), nx + 2, []⟩ w →
    Calls P gf (#[.func (.yield L) #[] #[]] ++ (caps.map (AV.c n)).toArray) w fun e w' => (∃ v, e = .returned v) ∧ ∃ n' G' pre, (∀ id, id < nx + 2 → n' id = n id) ∧
      ((pre = xs ∧ HSat cx n' ⟨0, [], [(nx, .jf (J pre G') G'), (nx + 1, .pf RF GR)], nx + 2, []⟩ w') ∨ (pre <+: xs ∧ HSat cx n' ⟨0, [], [(nx, .jf (Jx pre G') G'), (nx + 1, .pf RF GR)], nx + 2, []⟩ w'))
def RQ (cx : Cx) (nt nx : Nat) (jL jD : HE) (Mn : List (Nat × HE)) (Mx : Code → Option (List (Nat × HE))) (ro : List (Nat × HE)) : Exit → AS → Prop
  | .normal, s => Le cx s ⟨nt, [], (nx, jL) :: (nx + 1, jD) :: (Mn ++ ro), nx + 2, []⟩
  | .ret, s => ∃ Mr, Mx .ret = some Mr ∧ Le cx s ⟨nt, [], (nx, jL) :: (nx + 1, jD) :: (Mr ++ ro), nx + 2, []⟩
  | .exit i, s => ∃ Mr, Mx (.exit i) = some Mr ∧ Le cx s ⟨nt, [], (nx, jL) :: (nx + 1, jD) :: (Mr ++ ro), nx + 2, []⟩
  | .goto i, s => ∃ Mr, Mx (.goto i) = some Mr ∧ Le cx s ⟨nt, [], (nx, jL) :: (nx + 1, jD) :: (Mr ++ ro), nx + 2, []⟩
  | _, _ => False
def JG (ok : Nat → Prop) (nL : Vn) (nx L D B : Nat) (G0 : Nat → Prop) (F : World → Prop) (Ms : List (Nat × HE)) (G : Nat → Prop) (w : World) : Prop :=
  ∃ n : Vn, (∀ id, id < nx + 2 → n id = nL id) ∧ (∀ id, (n id).oneCell' = true) ∧ (∀ g, G g → G0 g ∨ B ≤ g) ∧
    MSat ok n ((nx, .jf F (· = L)) :: (nx + 1, .jf (fun w => w.heap[D]? = some (.deferred (some []))) (· = D)) :: Ms) w G
theorem JG.stab {ok : Nat → Prop} {nL : Vn} {nx L D B : Nat} {G0 : Nat → Prop} {F : World → Prop} {Ms : List (Nat × HE)} {G : Nat → Prop} {w1 w2 : World} (h : JG ok nL nx L D B G0 F Ms G w1) (hw : ∀ g, G g → w2.heap[g]? = w1.heap[g]?) : JG ok nL nx L D B G0 F Ms G w2 := by
  obtain ⟨n, h1, h2, h3, h4⟩ := h
  exact ⟨n, h1, h2, h3, h4.move hw⟩
end Go.Proofs.YthfnedbpmdkdjaaDoor.Eng
namespace Go.Proofs.YthfnedbpmdkdjaaDoor.Eng
open Go Go.RowKit
set_option linter.unusedVariables false
set_option linter.unusedSimpArgs false
section
variable {P : Program} {tt : TT} {cx : Cx} {s s' : AS} {Q : Exit → AS → Prop}
abbrev eL (L : Nat) (F : World → Prop) : HE := .jf F (· = L)
abbrev eD (D : Nat) : HE := .jf (fun w => w.heap[D]? = some (.deferred (some []))) (· = D)
theorem JG.of {ok : Nat → Prop} {nL n : Vn} {nx L D B nt m : Nat} {G0 : Nat → Prop} {F F' : World → Prop} {Ms ro : List (Nat × HE)} {w : World} {o : Obj} {cxR : Cx} {df : List Nat}
    (h : HSat cxR n ⟨nt, [], (nx, eL L F) :: (nx + 1, eD D) :: (Ms ++ ro), m, df⟩ w) (hMm : ∀ x ∈ Ms, x.2.mut = true) (hn : ∀ id, id < nx + 2 → n id = nL id)
    (hF : F' (w.putObj L o)) (hst : ∀ w1 w2 : World, F' w1 → (∀ g, g = L → w2.heap[g]? = w1.heap[g]?) → F' w2) (hG : ∀ g, cxR.ok g → g < w.heap.size → G0 g ∨ B ≤ g) (hok : ∀ g, (G0 g ∨ B ≤ g) → ok g) :
    JG ok nL nx L D B G0 F' Ms (FP n ((nx, eL L F') :: (nx + 1, eD D) :: Ms)) (w.putObj L o) ∧
    (∀ g, FP n ((nx, eL L F') :: (nx + 1, eD D) :: Ms) g → cxR.ok g ∧ g < w.heap.size) := by
  have h' : HSat cxR n ⟨nt, [], ((nx, eL L F) :: (nx + 1, eD D) :: Ms) ++ ro, m, df⟩ w := h
  have hm := h'.msat
  have hmut : ∀ x ∈ ((nx, eL L F) :: (nx + 1, eD D) :: Ms), x.2.mut = true := fun x hx => by
    rcases List.mem_cons.1 hx with rfl | hx
    · rfl
    · rcases List.mem_cons.1 hx with rfl | hx
      · rfl
      · exact hMm x hx
  have hfp : ∀ g, FP n ((nx, eL L F') :: (nx + 1, eD D) :: Ms) g → FP n ((nx, eL L F) :: (nx + 1, eD D) :: Ms) g := fun g ⟨x, hx, hg⟩ => by
    rcases List.mem_cons.1 hx with rfl | hx
    · exact ⟨(nx, eL L F), List.mem_cons_self, hg⟩
    · exact ⟨x, List.mem_cons_of_mem _ hx, hg⟩
  have hcx : ∀ g, FP n ((nx, eL L F') :: (nx + 1, eD D) :: Ms) g → cxR.ok g ∧ g < w.heap.size := fun g hg => by
    have hg1 := hfp g hg
    obtain ⟨x, hx, hgx⟩ := hg1
    exact ⟨HE.foot_ok (hmut x hx) (hm.ents x hx) g hgx, lt_of_some (hm.here g ⟨x, hx, hgx⟩)⟩
  obtain ⟨s1, s2⟩ := List.pairwise_cons.1 hm.sep
  have hLok : ok L := hok L (hG L (hcx L ⟨_, List.mem_cons_self, rfl⟩).1 (hcx L ⟨_, List.mem_cons_self, rfl⟩).2)
  refine ⟨⟨n, hn, h.one, fun g hg => hG g (hcx g hg).1 (hcx g hg).2, ⟨fun x hx => ?_, List.pairwise_cons.2 ⟨fun y hy hm' g hg => s1 y hy (.inl rfl) g hg, s2⟩, fun g => Iff.rfl, fun g hg => some_of_lt (by rw [World.putObj_size]; exact (hcx g hg).2)⟩⟩, hcx⟩
  rcases List.mem_cons.1 hx with rfl | hx1
  · exact ⟨hF, fun g hg => by cases hg; exact hLok, hst⟩
  · have hx0 : x ∈ ((nx, eL L F) :: (nx + 1, eD D) :: Ms) := List.mem_cons_of_mem _ hx1
    refine HE.sat_ok (HE.sat_move (hm.ents x hx0) fun g hg => World.putObj_heap_other fun e => ?_) fun _ g hg => hok g ?_
    · subst e; exact s1 x hx1 (.inl rfl) g rfl hg
    · have := hcx g ⟨x, List.mem_cons_of_mem _ hx1, hg⟩
      exact hG g this.1 this.2
def RFo (ok : Nat → Prop) (nL : Vn) (ro : List (Nat × HE)) (w : World) : Prop := (∀ x ∈ ro, x.2.sat nL ok w (nL x.1)) ∧ ∀ g, FP nL ro g → (w.heap[g]?).isSome = true
theorem RFo.stab {ok : Nat → Prop} {nL : Vn} {ro : List (Nat × HE)} {w1 w2 : World} (h : RFo ok nL ro w1) (hw : ∀ g, FP nL ro g → w2.heap[g]? = w1.heap[g]?) : RFo ok nL ro w2 :=
  ⟨fun x hx => HE.sat_move (h.1 x hx) fun g hg => hw g ⟨x, hx, hg⟩, fun g hg => by rw [hw g hg]; exact h.2 g hg⟩
theorem mem2 {y z : Nat × HE} {Ms ro : List (Nat × HE)} {R : Nat × HE → Prop} (hy : R y) (hz : R z) (hM : ∀ x ∈ Ms, R x) (hr : ∀ x ∈ ro, R x) : ∀ x ∈ y :: z :: (Ms ++ ro), R x := fun x hx => by
  rcases List.mem_cons.1 hx with rfl | hx
  · exact hy
  · rcases List.mem_cons.1 hx with rfl | hx
    · exact hz
    · rcases List.mem_append.1 hx with hx | hx
      · exact hM x hx
      · exact hr x hx
theorem putAll_tmps {n : Vn} {x : List AV} : ∀ (ps : List Tmp) (tmps : Array Value), ((ps.zip x).map fun y => (y.1, y.2.c n)).foldl (fun t y => t.setIfInBounds y.1 y.2) tmps = (ps.zip (x.map (AV.c n))).foldl (fun t y => t.setIfInBounds y.1 y.2) tmps := by
  intro ps tmps
  congr 1
  rw [List.zip_map_right]
  rfl
theorem JG.heap {ok : Nat → Prop} {nL : Vn} {nx L D B nt : Nat} {G0 : Nat → Prop} {F : World → Prop} {Ms ro : List (Nat × HE)} {G : Nat → Prop} {w : World} (h : JG ok nL nx L D B G0 F Ms G w) (hR : RFo ok nL ro w) (cxR : Cx) (hfr : Fr cxR.w0 cxR.ok w) (hn : ∀ id, id < cxR.m0 → nL id = cxR.n0 id) (hm0 : cxR.m0 ≤ nx + 2)
    (hGok : ∀ g, G g → cxR.ok g) (hdis : ∀ g, FP nL ro g → ¬ (G0 g ∨ B ≤ g)) (hMs : mOk s nx Ms = true) (hro : rOk s nx ro = true) (hnx : s.nx = nx) :
    ∃ n, (∀ id, id < nx + 2 → n id = nL id) ∧ HSat cxR n ⟨nt, [], (nx, eL L F) :: (nx + 1, eD D) :: (Ms ++ ro), nx + 2, []⟩ w := by
  obtain ⟨n, hag, one, hGB, hM⟩ := h
  refine ⟨n, hag, ?_⟩
  have hms := mOk_spec hMs
  have hrs := rOk_spec hro
  refine assemble (MU := (nx, eL L F) :: (nx + 1, eD D) :: Ms) (nL := nL) (okR := ok) hfr (fun id hid => (hag id (Nat.lt_of_lt_of_le hid hm0)).trans (hn id hid)) hm0 hag one hM hGok hR.1
    (fun x hx g hg => ⟨hR.2 g ⟨x, hx, hg⟩, fun hG => hdis g ⟨x, hx, hg⟩ (hGB g hG)⟩) (fun x hx => (hrs x hx).1) ?_ ?_
  · exact mem2 (R := fun x => x.2.ok _) trivial trivial (fun x hx => heOk_sound (by simp only [hnx]; omega) (hms x hx).2.1) (fun x hx => heOk_sound (by simp only [hnx]; omega) (hrs x hx).2.1)
  · exact mem2 (R := fun x => x.1 < nx + 2) (by simp) (by simp) (fun x hx => Nat.lt_add_right 2 (hms x hx).2.2) (fun x hx => Nat.lt_add_right 2 (hrs x hx).2.2)
theorem JG.after {nL : Vn} {nx L D B nt : Nat} {G0 : Nat → Prop} {F : World → Prop} {Ms ro : List (Nat × HE)} {G : Nat → Prop} {w : World} {df : List Nat} (o : Obj) (h : JG cx.ok nL nx L D B G0 F Ms G w) (hR : RFo cx.ok nL ro w) (hfr : Fr cx.w0 cx.ok w) (hn : ∀ id, id < cx.m0 → nL id = cx.n0 id) (hm0 : cx.m0 ≤ nx + 2)
    (hGok : ∀ g, (G0 g ∨ B ≤ g) → cx.ok g) (hdis : ∀ g, FP nL ro g → ¬ (G0 g ∨ B ≤ g)) (hMs : mOk s nx Ms = true) (hro : rOk s nx ro = true) (hnx : s.nx = nx) :
    ∃ n, (∀ id, id < nx + 2 → n id = nL id) ∧ HSat cx n ⟨nt, [], (nx + 1, eD D) :: (Ms ++ ro), nx + 2, df⟩ (w.putObj L o) := by
  obtain ⟨n, hag, one, hGB, hM⟩ := h
  refine ⟨n, hag, ?_⟩
  have hms := mOk_spec hMs
  have hrs := rOk_spec hro
  obtain ⟨s1, s2⟩ := List.pairwise_cons.1 hM.sep
  have hGL : G L := (hM.foot L).2 ⟨_, List.mem_cons_self, rfl⟩
  have hM' : MSat cx.ok n ((nx + 1, eD D) :: Ms) (w.putObj L o) (FP n ((nx + 1, eD D) :: Ms)) := by
    refine ⟨fun x hx => HE.sat_move (hM.ents x (List.mem_cons_of_mem _ hx)) fun g hg => World.putObj_heap_other fun e => ?_, s2, fun g => Iff.rfl, fun g ⟨x, hx, hg⟩ => some_of_lt ?_⟩
    · subst e; exact s1 x hx (.inl rfl) g rfl hg
    · rw [World.putObj_size]; exact lt_of_some (hM.here g ((hM.foot g).2 ⟨x, List.mem_cons_of_mem _ hx, hg⟩))
  have hR' : RFo cx.ok nL ro (w.putObj L o) := hR.stab fun g hg => World.putObj_heap_other fun e => by
    subst e; exact hdis g hg (hGB g hGL)
  have hfr' : Fr cx.w0 cx.ok (w.putObj L o) := hfr.grown (grownBy_putObj' w L o) (fun g hg => by cases hg; exact hGok _ (hGB _ hGL))
  refine assemble (MU := (nx + 1, eD D) :: Ms) (nL := nL) (okR := cx.ok) hfr' (fun id hid => (hag id (Nat.lt_of_lt_of_le hid hm0)).trans (hn id hid)) hm0 hag one hM' (fun g ⟨x, hx, hg⟩ => hGok g (hGB g ((hM.foot g).2 ⟨x, List.mem_cons_of_mem _ hx, hg⟩))) hR'.1
    (fun x hx g hg => ⟨hR'.2 g ⟨x, hx, hg⟩, fun ⟨y, hy, hgy⟩ => hdis g ⟨x, hx, hg⟩ (hGB g ((hM.foot g).2 ⟨y, List.mem_cons_of_mem _ hy, hgy⟩))⟩) (fun x hx => (hrs x hx).1) ?_ ?_
  · intro x hx
    refine mem2 (y := (nx + 1, eD D)) (z := (nx + 1, eD D)) (R := fun x => x.2.ok _) trivial trivial (fun x hx => heOk_sound (by simp only [hnx]; omega) (hms x hx).2.1) (fun x hx => heOk_sound (by simp only [hnx]; omega) (hrs x hx).2.1) x (List.mem_cons_of_mem _ hx)
  · intro x hx
    exact mem2 (y := (nx + 1, eD D)) (z := (nx + 1, eD D)) (R := fun x => x.1 < nx + 2) (by simp) (by simp) (fun x hx => Nat.lt_add_right 2 (hms x hx).2.2) (fun x hx => Nat.lt_add_right 2 (hrs x hx).2.2) x (List.mem_cons_of_mem _ hx)
end
end Go.Proofs.YthfnedbpmdkdjaaDoor.Eng
namespace Go.Proofs.YthfnedbpmdkdjaaDoor.Eng
open Go Go.RowKit
set_option linter.unusedVariables false
set_option linter.unusedSimpArgs false
section
variable {P : Program} {tt : TT} {cx : Cx} {s s' : AS} {Q : Exit → AS → Prop}
set_option maxHeartbeats 1000000 in
theorem WP_range (hT : TTok P tt) (htop : cx.top = true) {f : Operand} {ps : Array Tmp} {assign body : Code} {α : Type} (xs : List α) (encs : α → Array Value) (ea : α → List AV) (ts : List Nat) (E : List (Nat × List (Nat × Bool) × AV))
    (cid gf : Nat) (caps : List AV) (M : List α → List (Nat × HE)) (MX : Code → List α → Option (List (Nat × HE))) (it ro : List (Nat × HE))
    (hx : ev s [] f = some (.s (.ref cid))) (hc : fnd s.hp cid = some (.clo gf [] caps)) (hgo : goes P gf) (hE : envSel s ts = some E)
    (hsub : SubP s.hp (M [] ++ (it ++ ro))) (hun : uniq (M [] ++ (it ++ ro)) = true)
    (hMok : ∀ pre, mOk s s.nx (M pre) = true) (hXok : ∀ c pre Mr, MX c pre = some Mr → mOk s s.nx Mr = true) (hrok : rOk s s.nx ro = true)
    (henc : ∀ x n, encs x = ((ea x).map (AV.c n)).toArray) (hps : ∀ x, (ea x).length = ps.size) (hea : ∀ x, ∀ v ∈ ea x, okB s v = true) (hcaps : ∀ v ∈ caps, okB s v = true)
    (hit : IterOk P gf caps it ro s.nx encs xs)
    (hround : ∀ pre x, pre ++ [x] <+: xs → ∀ (w0 : World) (ok : Nat → Prop) (n0 : Vn) (L D : Nat) (FL FB : World → Prop), (∀ id, id < cx.m0 → n0 id = cx.n0 id) →
      ∃ sR, putAll ⟨s.nt, E, (s.nx, eL L FL) :: (s.nx + 1, eD D) :: (M pre ++ ro), s.nx + 2, []⟩ (ps.toList.zip (ea x)) = some sR ∧
        WP P ⟨w0, ok, n0, s.nx + 2, false⟩ sR assign (Nx (fun s' => fnd s'.hp s.nx = some (eL L FL) ∧
          WP P ⟨w0, ok, n0, s.nx + 2, false⟩ { s' with hp := rep s'.hp s.nx (eL L FB) } body (RQ ⟨w0, ok, n0, s.nx + 2, false⟩ s.nt s.nx (eL L FB) (eD D) (M (pre ++ [x])) (fun c => MX c (pre ++ [x])) ro)) (fun _ _ => False)))
    (hdone : ∀ D, Q .normal ⟨s.nt, E, (s.nx + 1, eD D) :: (M xs ++ ro), s.nx + 2, D :: s.df⟩)
    (hstop : ∀ D c pre Mr, MX c pre = some Mr → pre <+: xs → WP P cx ⟨s.nt, E, (s.nx + 1, eD D) :: (Mr ++ ro), s.nx + 2, D :: s.df⟩ c Q) : WP P cx s (.rangeFunc f ps assign body) Q := fun r m' ht n a w hs => by
  obtain rfl : r = none := ht htop
  have hH : Holds a [] := fun x hx => by cases hx
  obtain ⟨ef, _⟩ := ev_sound hs.env hH hx
  have hclo := hs.heap.ents _ (fnd_mem hc)
  simp only [AV.c, AC.c] at ef
  simp only [HE.sat, List.map_nil] at hclo
  rw [hclo] at ef
  refine wpIn_rangeFunc fun fn hfn => ?_
  obtain ⟨rec, hrec⟩ : ∃ rec : LoopState → Option Code → Loop, rec = fun st pe => { state := st, pending := pe, fn, tmps := a.tmps, params := ps, assign, body, defers := w.heap.size } := ⟨_, rfl⟩
  obtain ⟨W1, hW1⟩ : ∃ W1, (w.alloc (.deferred (some []))).alloc (.loop (rec .ready none)) = W1 := ⟨_, rfl⟩
  have hb : Below w.heap.size w W1 := by rw [← hW1]; exact ((Below.refl _ w).alloc (Nat.le_refl _) _).alloc (by simp) _
  have hz : W1.heap.size = w.heap.size + 2 := by rw [← hW1]; simp
  have hL1 : W1.heap[w.heap.size + 1]? = some (.loop (rec .ready none)) := by
    rw [← hW1]; have := World.alloc_heap_new (w.alloc (.deferred (some []))) (.loop (rec .ready none)); rwa [World.size_alloc] at this
  have hD1 : W1.heap[w.heap.size]? = some (.deferred (some [])) := by
    rw [← hW1]; exact (Below.heap_alloc _ _ _ (by simp)).trans (World.alloc_heap_new w _)
  obtain ⟨nL, hnLd⟩ : ∃ nL : Vn, nL = upd (upd n s.nx .nilFunc) (s.nx + 1) .nilFunc := ⟨_, rfl⟩
  have hnL : ∀ id, id < s.nx → nL id = n id := fun id hid => by rw [hnLd, upd_lt _ _ _ _ (by omega), upd_lt _ _ _ _ hid]
  have one : ∀ id, (nL id).oneCell' = true := fun id => by
    rw [hnLd]; unfold upd; split
    · rfl
    · split
      · rfl
      · exact hs.heap.one id
  have hini : ∀ id, id < cx.m0 → nL id = cx.n0 id := fun id hid => (hnL id (Nat.lt_of_lt_of_le hid hs.heap.inx)).trans (hs.heap.ini id hid)
  have hm0 : cx.m0 ≤ s.nx + 2 := Nat.le_trans hs.heap.inx (by omega)
  have hpk := hs.heap.pick hsub hun 0 []
  have hidp : ∀ x ∈ M [] ++ (it ++ ro), nL x.1 = n x.1 := fun x hx => hnL _ (hpk.ids x hx)
  have hpsat : ∀ x ∈ M [] ++ (it ++ ro), x.2.sat nL cx.ok W1 (nL x.1) := fun x hx => by
    rw [hidp x hx]
    exact HE.sat_congr (hpk.oks x hx) hnL (HE.sat_move (hpk.ents x hx) fun g hg => hb.block g (hpk.lt x hx g hg))
  have hplt : ∀ x ∈ M [] ++ (it ++ ro), ∀ g, x.2.foot (nL x.1) g → g < w.heap.size := fun x hx g hg => hpk.lt x hx g (by rw [← hidp x hx]; exact hg)
  have hpsep : (M [] ++ (it ++ ro)).Pairwise (Sep nL) := hpk.sep.imp_of_mem fun {x y} hx hy h hm g hg hgy => h hm g (by rw [← hidp x hx]; exact hg) (by rw [← hidp y hy]; exact hgy)
  obtain ⟨sepM, sepR, sepMR⟩ := List.pairwise_append.1 hpsep
  obtain ⟨sepI, sepO, sepIO⟩ := List.pairwise_append.1 sepR
  have hMm := mOk_spec (hMok [])
  have hrm := rOk_spec hrok
  -- the caller's own
  obtain ⟨L, hLd⟩ : ∃ L, L = w.heap.size + 1 := ⟨_, rfl⟩
  obtain ⟨D, hDd⟩ : ∃ D, D = w.heap.size := ⟨_, rfl⟩
  obtain ⟨Fs, hFs⟩ : ∃ Fs : LoopState → Option Code → World → Prop, Fs = fun st pe w => w.heap[L]? = some (.loop (rec st pe)) := ⟨_, rfl⟩
  obtain ⟨G0, hG0⟩ : ∃ G0 : Nat → Prop, G0 = FP nL ((s.nx, eL L (Fs .ready none)) :: (s.nx + 1, eD D) :: M []) := ⟨_, rfl⟩
  have hG0w : ∀ g, G0 g → g < w.heap.size + 2 ∧ (g < w.heap.size → FP nL (M []) g) := fun g hg => by
    rw [hG0] at hg
    obtain ⟨x, hx, hgx⟩ := hg
    rcases List.mem_cons.1 hx with rfl | hx
    · cases hgx; exact ⟨by omega, fun h => by omega⟩
    · rcases List.mem_cons.1 hx with rfl | hx
      · cases hgx; exact ⟨by omega, fun h => by omega⟩
      · exact ⟨by have := hplt x (List.mem_append_left _ hx) g hgx; omega, fun _ => ⟨x, hx, hgx⟩⟩
  have hGok : ∀ g, (G0 g ∨ w.heap.size + 2 ≤ g) → cx.ok g := fun g hg => by
    rcases hg with hg | hg
    · rcases Nat.lt_or_ge g w.heap.size with hlt | hge
      · obtain ⟨x, hx, hgx⟩ := (hG0w g hg).2 hlt
        exact HE.foot_ok (hMm x hx).1 (hpsat x (List.mem_append_left _ hx)) g hgx
      · exact hs.heap.fr.news g (Nat.le_trans hs.heap.fr.size hge)
    · exact hs.heap.fr.news g (by have := hs.heap.fr.size; omega)
  have hrolt : ∀ g, FP nL ro g → g < w.heap.size := fun g ⟨x, hx, hgx⟩ => hplt x (List.mem_append_right _ (List.mem_append_right _ hx)) g hgx
  have hdis : ∀ g, FP nL ro g → ¬ (G0 g ∨ w.heap.size + 2 ≤ g) := fun g hg h => by
    have hlt := hrolt g hg
    rcases h with h | h
    · obtain ⟨x, hx, hgx⟩ := (hG0w g h).2 hlt
      obtain ⟨y, hy, hgy⟩ := hg
      exact sepMR x hx y (List.mem_append_right _ hy) (.inl (hMm x hx).1) g hgx hgy
    · omega
  obtain ⟨J, hJ⟩ : ∃ J : List α → (Nat → Prop) → World → Prop, J = fun pre G w1 => JG cx.ok nL s.nx L D (w.heap.size + 2) G0 (Fs .ready none) (M pre) G w1 := ⟨_, rfl⟩
  obtain ⟨Jx, hJx⟩ : ∃ Jx : List α → (Nat → Prop) → World → Prop, Jx = fun pre G w1 => ∃ c Mr, MX c pre = some Mr ∧ JG cx.ok nL s.nx L D (w.heap.size + 2) G0 (Fs .done (some c)) Mr G w1 := ⟨_, rfl⟩
  have hFst : ∀ st pe (w1 w2 : World), Fs st pe w1 → (∀ g, g = L → w2.heap[g]? = w1.heap[g]?) → Fs st pe w2 := fun st pe w1 w2 h hw => by
    rw [hFs] at h ⊢; exact (hw L rfl).trans h
  have hDst : ∀ (w1 w2 : World), w1.heap[D]? = some (.deferred (some [])) → (∀ g, g = D → w2.heap[g]? = w1.heap[g]?) → w2.heap[D]? = some (.deferred (some [])) := fun w1 w2 h hw => (hw D rfl).trans h
  have hRF1 : RFo cx.ok nL ro W1 := ⟨fun x hx => hpsat x (List.mem_append_right _ (List.mem_append_right _ hx)), fun g hg => some_of_lt (by have := hrolt g hg; omega)⟩
  have hfrW1 : Fr cx.w0 cx.ok W1 := hs.heap.fr.below hb
  have hM0 : MSat cx.ok nL ((s.nx, eL L (Fs .ready none)) :: (s.nx + 1, eD D) :: M []) W1 G0 := by
    refine ⟨fun x hx => ?_, ?_, fun g => by rw [hG0]; exact Iff.rfl, fun g hg => some_of_lt (by rw [hz]; exact (hG0w g hg).1)⟩
    · rcases List.mem_cons.1 hx with rfl | hx
      · exact ⟨by rw [hFs, hLd]; exact hL1, fun g hg => by cases hg; exact hGok L (.inl (by rw [hG0]; exact ⟨_, List.mem_cons_self, rfl⟩)), hFst _ _⟩
      · rcases List.mem_cons.1 hx with rfl | hx
        · exact ⟨by rw [hDd]; exact hD1, fun g hg => by cases hg; exact hGok D (.inl (by rw [hG0]; exact ⟨_, List.mem_cons_of_mem _ List.mem_cons_self, rfl⟩)), hDst⟩
        · exact hpsat x (List.mem_append_left _ hx)
    · refine List.pairwise_cons.2 ⟨fun y hy _ g hg hgy => ?_, List.pairwise_cons.2 ⟨fun y hy _ g hg hgy => ?_, sepM⟩⟩
      · cases hg
        rcases List.mem_cons.1 hy with rfl | hy
        · have : L = D := hgy; omega
        · have := hplt y (List.mem_append_left _ hy) L hgy; omega
      · cases hg
        have := hplt y (List.mem_append_left _ hy) D hgy; omega
  have hJ0 : J [] G0 W1 := by rw [hJ]; exact ⟨nL, fun _ _ => rfl, one, fun g hg => .inl hg, hM0⟩
  have hstJ : Stab J := fun pre G w1 w2 h hw => by rw [hJ] at h ⊢; exact JG.stab h hw
  have hstJx : Stab Jx := fun pre G w1 w2 h hw => by rw [hJx] at h ⊢; obtain ⟨c, Mr, h1, h2⟩ := h; exact ⟨c, Mr, h1, JG.stab h2 hw⟩
  -- one round
  have hY : YieldOk P L encs xs (RFo cx.ok nL ro) J Jx := by
    intro pre x G w2 hpre hJp hRF r2 m2
    have hJp' := hJp
    rw [hJ] at hJp'
    have hGw : ∀ g, G g → G0 g ∨ w.heap.size + 2 ≤ g := by obtain ⟨_, _, _, h, _⟩ := hJp'; exact h
    have hGh : ∀ g, G g → (w2.heap[g]?).isSome = true := by obtain ⟨_, _, _, _, h⟩ := hJp'; exact h.here
    have hLF : w2.heap[L]? = some (.loop (rec .ready none)) := by
      obtain ⟨n2, _, _, _, hM2⟩ := hJp'
      have := (hM2.ents _ List.mem_cons_self).1
      rwa [hFs] at this
    have hLG : G L := by obtain ⟨n2, _, _, _, hM2⟩ := hJp'; exact (hM2.foot L).2 ⟨_, List.mem_cons_self, rfl⟩
    have hLw : L < w2.heap.size := lt_of_some (hGh L hLG)
    have hy := run_yield (P := P) (args := encs x) hLF (by rw [hrec, henc x n]; simp [hps])
    rw [hrec] at hy
    refine ⟨fn, _, assign, body, hy, roundIn_of_wpIn (F := Fn r2) trivial ?_⟩
    obtain ⟨sR, hput, hwp⟩ := hround pre x hpre w2 (fun k => G k ∨ w2.heap.size ≤ k) nL L D (Fs .ready none) (Fs .busy none) hini
    obtain ⟨n2, hag2, hhs⟩ := hJp'.heap (s := s) (nt := s.nt) hRF ⟨w2, fun k => G k ∨ w2.heap.size ≤ k, nL, s.nx + 2, false⟩ (Fr.refl _ _ fun k hk => .inr hk) (fun _ _ => rfl) (Nat.le_refl _) (fun g hg => .inl hg) hdis (hMok pre) hrok rfl
    have hsat0 : Sat ⟨w2, fun k => G k ∨ w2.heap.size ≤ k, nL, s.nx + 2, false⟩ n2 ⟨s.nt, E, (s.nx, eL L (Fs .ready none)) :: (s.nx + 1, eD D) :: (M pre ++ ro), s.nx + 2, []⟩ ⟨a.tmps, []⟩ w2 := by
      refine ⟨hhs.env, hs.size, fun y hy => ?_, rfl⟩
      obtain ⟨h1, h2, h3⟩ := envSel_spec hE y hy
      have he := hs.env y h1
      refine ⟨he.lt, fun _ => ⟨?_, okB_sound (okB_nx (by simp) h3)⟩, fun hn => absurd (by rw [h2]; intro z hz; cases hz) hn⟩
      have := he.yes (by rw [h2]; intro z hz; cases hz)
      rw [this.1]
      exact (AV.c_congr (okB_sound h3) fun id hid => (hag2 id (by omega)).trans (hnL id hid)).symm
    have hsatR := putAll_sat _ _ _ _ hsat0 hput (fun y hy => okB_nx (by simp) (hea x y.2 (List.of_mem_zip hy).2))
    have htm : ((ps.toList.zip (ea x)).map fun y => (y.1, y.2.c n2)).foldl (fun t y => t.setIfInBounds y.1 y.2) a.tmps = (ps.zip (encs x)).foldl (fun t (p, v) => t.setIfInBounds p v) a.tmps := by
      rw [putAll_tmps, henc x n2, ← Array.foldl_toList]
      simp
    rw [htm] at hsatR
    refine wpIn_mono (hwp (some L) m2 (fun h => by cases h) n2 _ w2 hsatR) ?_
    rintro e a1 w3 ⟨n3, s3, hq, hs3⟩
    cases e with
    | normal =>
      obtain ⟨hf3, hbody⟩ := hq
      have hj3 := hs3.heap.ents _ (fnd_mem hf3)
      have hL3 : w3.heap[L]? = some (.loop (rec .ready none)) := by have := hj3.1; rwa [hFs] at this
      refine ⟨_, run_beginRound hL3 (by rw [hrec]), ?_⟩
      have hbusy : ∀ w3 : World, w3.heap[L]? = some (.loop (rec .ready none)) → Fs .busy none (w3.putObj L (.loop { rec .ready none with state := .busy })) := fun w3 h => by
        rw [hFs]
        refine (World.putObj_heap_same (Array.getElem?_eq_some_iff.1 h).1).trans ?_
        rw [hrec]
      have hw4 := hs3.heap.write (w' := w3.putObj L (.loop { rec .ready none with state := .busy })) (e := eL L (Fs .busy none)) hf3 rfl (g := L) rfl rfl (fun _ => rfl) (Nat.le_refl _) (hj3.2.1 L rfl) (fun k hk => World.putObj_heap_other hk) World.putObj_size rfl rfl rfl
        ⟨hbusy w3 hL3, hj3.2.1, hFst _ _⟩ trivial
      refine wpIn_mono (hbody (some L) m2 (fun h => by cases h) n3 a1 _ (env_hp hs3 (more_rep hf3 (Nat.le_refl _)) hw4)) ?_
      rintro e2 a2 w5 ⟨n5, s5, hq5, hs5⟩
      have fin : ∀ (jump : Option Code) (Mr : List (Nat × HE)), Le ⟨w2, fun k => G k ∨ w2.heap.size ≤ k, nL, s.nx + 2, false⟩ s5 ⟨s.nt, [], (s.nx, eL L (Fs .busy none)) :: (s.nx + 1, eD D) :: (Mr ++ ro), s.nx + 2, []⟩ → mOk s s.nx Mr = true →
          ∃ w6 G', (Instr.endRound L jump).run P w5 = .ok (.bool jump.isNone) w6 ∧ (∀ g, G' g → G g ∨ w2.heap.size ≤ g) ∧ (∀ g, G' g → g < w6.heap.size) ∧ FrS w2 G w6 ∧ JG cx.ok nL s.nx L D (w.heap.size + 2) G0 (Fs (if jump.isNone then .ready else .done) jump) Mr G' w6 := fun jump Mr hle hMr => by
        obtain ⟨n6, hs6⟩ := hle n5 a2 w5 hs5
        have hL5 : w5.heap[L]? = some (.loop (rec .busy none)) := by
          have := (hs6.heap.ents _ List.mem_cons_self).1
          rwa [hFs] at this
        have hrun := run_endRound (P := P) jump hL5
        have hobj : Fs (if jump.isNone then .ready else .done) jump (w5.putObj L (.loop { rec .busy none with state := if jump.isNone then .ready else .done, pending := jump })) := by
          rw [hFs]
          refine (World.putObj_heap_same (Array.getElem?_eq_some_iff.1 hL5).1).trans ?_
          rw [hrec]
        obtain ⟨hJ6, hfp6⟩ := JG.of (ok := cx.ok) (nL := nL) (B := w.heap.size + 2) (G0 := G0) (F' := Fs (if jump.isNone then .ready else .done) jump) hs6.heap (fun x hx => (mOk_spec hMr x hx).1) (fun id hid => hs6.heap.ini id hid) hobj (hFst _ _)
          (fun g hg _ => by
            rcases hg with hg | hg
            · exact hGw g hg
            · right; have := hLw; omega) hGok
        refine ⟨_, _, hrun, fun g hg => (hfp6 g hg).1, fun g hg => by rw [World.putObj_size]; exact (hfp6 g hg).2, ?_, hJ6⟩
        exact hs6.heap.fr.grown (grownBy_putObj' w5 L _) (fun g hg => by cases hg; exact .inl hLG)
      cases e2 with
      | normal =>
        obtain ⟨w6, G', hr, h1, h2, h3, h4⟩ := fin none _ hq5 (hMok _)
        exact ⟨_, _, hr, G', h1, h2, h3, .inl ⟨rfl, by rw [hJ]; exact h4⟩⟩
      | ret =>
        obtain ⟨Mr, hMr, hle⟩ := hq5
        obtain ⟨w6, G', hr, h1, h2, h3, h4⟩ := fin (some .ret) _ hle (hXok _ _ _ hMr)
        exact ⟨_, _, hr, G', h1, h2, h3, .inr ⟨rfl, by rw [hJx]; exact ⟨_, Mr, hMr, h4⟩⟩⟩
      | exit i =>
        obtain ⟨Mr, hMr, hle⟩ := hq5
        obtain ⟨w6, G', hr, h1, h2, h3, h4⟩ := fin (some (.exit i)) _ hle (hXok _ _ _ hMr)
        exact ⟨_, _, hr, G', h1, h2, h3, .inr ⟨rfl, by rw [hJx]; exact ⟨_, Mr, hMr, h4⟩⟩⟩
      | goto i =>
        obtain ⟨Mr, hMr, hle⟩ := hq5
        obtain ⟨w6, G', hr, h1, h2, h3, h4⟩ := fin (some (.goto i)) _ hle (hXok _ _ _ hMr)
        exact ⟨_, _, hr, G', h1, h2, h3, .inr ⟨rfl, by rw [hJx]; exact ⟨_, Mr, hMr, h4⟩⟩⟩
      | panic c => exact hq5.elim
      | outgrown => exact hq5.elim
    | _ => exact hq.elim
  -- the iterator's heap
  have hhI : HSat cx nL ⟨0, [], (s.nx, .jf (J [] G0) G0) :: (s.nx + 1, .pf (RFo cx.ok nL ro) (FP nL ro)) :: (it ++ ro), s.nx + 2, []⟩ W1 := by
    have hin : ∀ x ∈ it ++ ro, x ∈ M [] ++ (it ++ ro) := fun x hx => List.mem_append_right _ hx
    refine ⟨hfrW1, hini, hm0, one, fun x hx => ?_, fun x hx => ?_, ?_, fun x hx g hg => ?_, fun x hx => ?_⟩
    · rcases List.mem_cons.1 hx with rfl | hx
      · exact ⟨hJ0, fun g hg => hGok g (.inl hg), fun w1 w2 h hw => hstJ _ _ w1 w2 h hw⟩
      · rcases List.mem_cons.1 hx with rfl | hx
        · exact ⟨hRF1, fun w1 w2 h hw => h.stab hw⟩
        · exact hpsat x (hin x hx)
    · rcases List.mem_cons.1 hx with rfl | hx
      · trivial
      · rcases List.mem_cons.1 hx with rfl | hx
        · trivial
        · refine HE.ok_more (hpk.oks x (hin x hx)) ⟨by simp, fun id hid e he => ?_⟩
          have hne : ∀ y, (y = s.nx ∨ y = s.nx + 1) → y ≠ id := fun y hy => by simp only at hid; omega
          have h1 : fnd ((s.nx, HE.jf (J [] G0) G0) :: (s.nx + 1, HE.pf (RFo cx.ok nL ro) (FP nL ro)) :: (it ++ ro)) id = some e := he
          rw [fnd_cons_ne (hne _ (.inl rfl)), fnd_cons_ne (hne _ (.inr rfl))] at h1
          refine ⟨e, ?_, Nat.le_refl _⟩
          have hmem := fnd_mem h1
          have huq := uniq_spec hun
          have hall : ∀ (l : List (Nat × HE)), l.Pairwise (fun x y => x.1 ≠ y.1) → ∀ x ∈ l, fnd l x.1 = some x.2 := fun l => by
            induction l with
            | nil => intro _ x hx; cases hx
            | cons y r ih =>
              intro hp x hx
              obtain ⟨p1, p2⟩ := List.pairwise_cons.1 hp
              rcases List.mem_cons.1 hx with rfl | hx
              · simp only [fnd, Nat.beq_refl, cond_true]
              · rw [fnd_cons_ne (p1 x hx)]; exact ih p2 x hx
          exact hall _ huq (id, e) (hin _ hmem)
    · refine List.pairwise_cons.2 ⟨fun y hy _ g hg hgy => ?_, List.pairwise_cons.2 ⟨fun y hy hm g hg hgy => ?_, sepR⟩⟩
      · rcases List.mem_cons.1 hy with rfl | hy
        · exact hdis g hgy (.inl hg)
        · have hlt := hplt y (hin y hy) g hgy
          obtain ⟨x, hx, hgx⟩ := (hG0w g hg).2 hlt
          exact sepMR x hx y hy (.inl (hMm x hx).1) g hgx hgy
      · obtain ⟨x, hx, hgx⟩ := hg
        rcases List.mem_append.1 hy with hy | hy
        · exact sepIO y hy x hx (.inl (hm.resolve_left (by simp [HE.mut]))) g hgy hgx
        · have := (hrm y hy).1
          rcases hm with h | h
          · simp [HE.mut] at h
          · rw [this] at h; cases h
    · rcases List.mem_cons.1 hx with rfl | hx
      · rw [hz]; exact (hG0w g hg).1
      · rcases List.mem_cons.1 hx with rfl | hx
        · have := hrolt g hg; omega
        · have := hplt x (hin x hx) g hg; omega
    · rcases List.mem_cons.1 hx with rfl | hx
      · simp
      · rcases List.mem_cons.1 hx with rfl | hx
        · simp
        · have : x.1 < s.nx := hpk.ids x (hin x hx)
          exact Nat.lt_add_right 2 this
  have hcall := hit cx nL W1 L _ _ J Jx G0 hstJ hstJx hY hhI
  have hcap : caps.map (AV.c nL) = caps.map (AV.c n) := List.map_congr_left fun v hv => AV.c_congr (okB_sound (hcaps v hv)) hnL
  rw [hcap] at hcall
  obtain ⟨gfn, hgfn, hgb⟩ := Option.map_eq_some_iff.1 hgo
  simp only [Bool.and_eq_true] at hgb
  have hnone : gfn.body.isNone = false := by
    cases hbo : gfn.body with
    | none => rw [hbo] at hgb; cases hgb.2
    | some b => rfl
  have hname : (gfn.name == "runtime.NumGoroutine") = false := by
    have := hgb.1
    simpa [bne] using this
  refine ⟨w.heap.size + 1, [{ target := .collected w.heap.size, args := #[] }], W1, { target := .fn (.func gf) (caps.map (AV.c n)).toArray, args := #[.func (.yield (w.heap.size + 1)) #[] #[]] }, W1, gf,
    #[.func (.yield (w.heap.size + 1)) #[] #[]] ++ (caps.map (AV.c n)).toArray, W1, ?_, ?_, fun _ _ => trivial, ?_, fun h => by simp [Fn, Fence.wide] at h, callsIn_Fn ?_⟩
  · rw [← hW1, hrec]; exact run_enterLoop_outer _ _ _ _ _
  · simp only [resolve, ef]
    simp [go_sem]
  · simp only [invoke, callFunc, Sem.run_bind, run_program, Result.andThen_ok, hgfn, hname, hnone]
    simp
  · rw [← hLd]
    refine hcall.mono ?_
    rintro e w7 ⟨⟨v, rfl⟩, n', G', pre, hag', hend⟩
    have hfr7 : Fr cx.w0 cx.ok w7 := by rcases hend with ⟨_, h⟩ | ⟨_, h⟩ <;> exact h.fr
    have hRF7 : RFo cx.ok nL ro w7 := by
      rcases hend with ⟨_, h⟩ | ⟨_, h⟩ <;> exact (h.ents _ (List.mem_cons_of_mem _ List.mem_cons_self)).1
    have satOf : ∀ (Mr : List (Nat × HE)) (nx : Vn) (w8 : World), (∀ id, id < s.nx + 2 → nx id = nL id) → HSat cx nx ⟨s.nt, [], (s.nx + 1, eD D) :: (Mr ++ ro), s.nx + 2, D :: s.df⟩ w8 →
        Sat cx nx ⟨s.nt, E, (s.nx + 1, eD D) :: (Mr ++ ro), s.nx + 2, D :: s.df⟩ { a with defers := [{ target := .collected w.heap.size, args := #[] }] ++ a.defers } w8 := fun Mr nx w8 hagx hh => by
      refine ⟨hh.env, hs.size, fun y hy => ?_, by simp only [hs.defers, marks, List.map_cons, hDd]; rfl⟩
      obtain ⟨h1, h2, h3⟩ := envSel_spec hE y hy
      have he := hs.env y h1
      refine ⟨he.lt, fun _ => ⟨?_, okB_sound (okB_nx (by simp) h3)⟩, fun hn => absurd (by rw [h2]; intro z hz; cases hz) hn⟩
      have := he.yes (by rw [h2]; intro z hz; cases hz)
      rw [this.1]
      exact (AV.c_congr (okB_sound h3) fun id hid => (hagx id (by omega)).trans (hnL id hid)).symm
    rcases hend with ⟨rfl, hh⟩ | ⟨hpre, hh⟩
    · have hJ7 := (hh.ents _ List.mem_cons_self).1
      rw [hJ] at hJ7
      have hL7 : w7.heap[L]? = some (.loop (rec .ready none)) := by
        obtain ⟨_, _, _, _, hM7⟩ := hJ7
        have := (hM7.ents _ List.mem_cons_self).1
        rwa [hFs] at this
      have hrun := run_endLoop (P := P) hL7 (by rw [hrec]; simp)
      obtain ⟨n8, hag8, hh8⟩ := JG.after (s := s) (nt := s.nt) (df := D :: s.df) (.loop { rec .ready none with state := .exhausted }) hJ7 hRF7 hfr7 hini hm0 hGok hdis (hMok _) hrok rfl
      refine ⟨none, _, by rw [hrun, hrec], ⟨n8, _, hdone D, satOf _ n8 _ hag8 ?_⟩⟩
      rw [hrec] at hh8
      exact hh8
    · have hJ7 := (hh.ents _ List.mem_cons_self).1
      rw [hJx] at hJ7
      obtain ⟨c, Mr, hMr, hJ7⟩ := hJ7
      have hL7 : w7.heap[L]? = some (.loop (rec .done (some c))) := by
        obtain ⟨_, _, _, _, hM7⟩ := hJ7
        have := (hM7.ents _ List.mem_cons_self).1
        rwa [hFs] at this
      have hrun := run_endLoop (P := P) hL7 (by rw [hrec]; simp)
      obtain ⟨n8, hag8, hh8⟩ := JG.after (s := s) (nt := s.nt) (df := D :: s.df) (.loop { rec .done (some c) with state := .exhausted }) hJ7 hRF7 hfr7 hini hm0 hGok hdis (hXok _ _ _ hMr) hrok rfl
      refine ⟨some c, _, by rw [hrun, hrec], hstop D c pre Mr hMr hpre none m' ht n8 _ _ (satOf _ n8 _ hag8 ?_)⟩
      rw [hrec] at hh8
      exact hh8
end
end Go.Proofs.YthfnedbpmdkdjaaDoor.Eng
namespace Go.Proofs.YthfnedbpmdkdjaaDoor.Eng
open Go Go.RowKit
set_option linter.unusedVariables false
set_option linter.unusedSimpArgs false
section
variable {P : Program} {tt : TT} {cx : Cx} {s s' : AS} {Q : Exit → AS → Prop}
def RetQM (tt : TT) (cx : Cx) (rs : List ResultVar) (R : Ending → World → Prop) : Exit → AS → Prop
  | .normal, s | .ret, s => (∃ r, resA tt s rs = some r ∧ ∀ n w, HSat cx n s w → R (.returned (r.c n)) w) ∨
    (∃ r D id, s.df = [D] ∧ fnd s.hp id = some (eD D) ∧ resM tt { s with hp := rem s.hp id } rs = some r ∧ ∀ n w, HSat cx n { s with hp := rem s.hp id } w → R (.returned (r.c n)) w)
  | _, _ => False
theorem mark_gone {n : Vn} {a : Act} {w : World} {D id : Nat} (hs : Sat cx n s a w) (hf : fnd s.hp id = some (eD D)) (o : Obj) : Sat cx n { s with hp := rem s.hp id } a (w.putObj D o) := by
  have hs1 : Sat cx n { s with hp := rem s.hp id } a w := env_hp hs (rem_more s id) (hs.heap.rem id)
  refine ⟨?_, hs1.size, hs1.env, hs1.defers⟩
  have hD := hs.heap.ents _ (fnd_mem hf)
  refine hs1.heap.move (hs.heap.fr.grown (grownBy_putObj' w D o) (fun g hg => by cases hg; exact hD.2.1 _ rfl)) (by rw [World.putObj_size]; exact Nat.le_refl _) fun x hx g hg => World.putObj_heap_other fun e => ?_
  have hsym : ∀ (x y : Nat × HE), Sep n x y → Sep n y x := fun x y h hm g h1 h2 => h hm.symm g h2 h1
  exact pw_mem hsym hs.heap.sep ((rem_sub s.hp id).subset hx) (fnd_mem hf) (fun e => rem_ne hx (by rw [e])) (.inr rfl) g hg e
theorem calls_of_WPM (hT : TTok P tt) {k : FuncId} {fn : Func} {c : Code} {n : Vn} {w : World} {hp : List (Nat × HE)} {nx nt : Nat} {vs : List AV} {rs : List ResultVar} {R : Ending → World → Prop} (hf : P.funcs[k]? = some fn) (hb : fn.body = some c) (hnt : fn.ntmps = nt) (hrs : fn.results.toList = rs)
    (hl : Nat.ble vs.length nt = true) (hh : HSat cx n ⟨nt, env0 0 vs, hp, nx, []⟩ w) (hv : ∀ v ∈ vs, v.ok ⟨nt, env0 0 vs, hp, nx, []⟩)
    (h : WP P cx ⟨nt, env0 0 vs, hp, nx, []⟩ c (RetQM tt cx rs R)) : Calls P k (vs.map (AV.c n)).toArray w R := by
  subst hnt
  have hl := Nat.le_of_ble_eq_true hl
  refine callsIn_wide.1 (callsIn_of_wp_marks (F := Fence.wide) (n := 0) hf hb trivial ?_)
  have hs : Sat cx n ⟨fn.ntmps, env0 0 vs, hp, nx, []⟩ { tmps := (vs.map (AV.c n)).toArray ++ Array.replicate (fn.ntmps - (vs.map (AV.c n)).toArray.size) undef, defers := [] } w := by
    refine ⟨hh, by simp; omega, fun x hx => ?_, rfl⟩
    obtain ⟨j, h1, h2, h3⟩ := env0_mem hx
    obtain ⟨hj, h2'⟩ := List.getElem?_eq_some_iff.1 h2
    refine ⟨by simp only; omega, fun _ => ⟨?_, hv _ (List.mem_of_getElem? h2)⟩, fun hn => absurd (by rw [h3]; intro y hy; cases hy) hn⟩
    rw [h1, Nat.zero_add]
    simp [Array.getD_eq_getD_getElem?, Array.getElem?_append, hj, h2']
  have fin : ∀ (n' : Vn) (s' : AS) (a : Act) (w' : World), Sat cx n' s' a w' → ((∃ r, resA tt s' rs = some r ∧ ∀ n w, HSat cx n s' w → R (.returned (r.c n)) w) ∨
      (∃ r D id, s'.df = [D] ∧ fnd s'.hp id = some (eD D) ∧ resM tt { s' with hp := rem s'.hp id } rs = some r ∧ ∀ n w, HSat cx n { s' with hp := rem s'.hp id } w → R (.returned (r.c n)) w)) →
      LeavesInM Fence.wide 0 P fn a.tmps R a.defers .returning w' := fun n' s' a w' hs' hq => by
    rcases hq with ⟨r, hr, hR⟩ | ⟨r, D, id, hd, hf, hr, hR⟩
    · obtain ⟨hd, hr⟩ := resA_spec hr
      rw [hs'.defers, hd]
      exact ⟨_, resA_sound hT hs' (by rw [hrs]; exact hr), hR n' w' hs'.heap⟩
    · have hD : w'.heap[D]? = some (.deferred (some [])) := (hs'.heap.ents _ (fnd_mem hf)).1
      have hs2 := mark_gone hs' hf (.deferred none)
      rw [hs'.defers, hd]
      exact ⟨by simp, .inl ⟨D, _, rfl, run_takeDeferred hD, _, resA_sound hT hs2 (by rw [hrs]; exact hr), hR n' _ hs2.heap⟩⟩
  refine wpIn_mono (h none 0 (fun _ => rfl) n _ w hs) fun e a w' ⟨n', s', hq, hs'⟩ => ?_
  cases e with
  | normal => exact fin n' s' a w' hs' hq
  | ret => exact fin n' s' a w' hs' hq
  | _ => exact hq.elim
theorem HSat.top {n : Vn} {w : World} {b : Bool} (h : HSat cx n s w) : HSat ⟨cx.w0, cx.ok, n, s.nx, b⟩ n s w := ⟨h.fr, fun _ _ => rfl, Nat.le_refl _, h.one, h.ents, h.oks, h.sep, h.lt, h.ids⟩
theorem HSat.back {n n' : Vn} {m : Nat} {w : World} {b : Bool} (h : HSat ⟨cx.w0, cx.ok, n, m, b⟩ n' s w) (h1 : ∀ id, id < cx.m0 → n id = cx.n0 id) (h2 : cx.m0 ≤ m) : HSat cx n' s w :=
  ⟨h.fr, fun id hid => (h.ini id (Nat.lt_of_lt_of_le hid h2)).trans (h1 id hid), Nat.le_trans h2 h.inx, h.one, h.ents, h.oks, h.sep, h.lt, h.ids⟩
theorem HSat.slots {n : Vn} {w : World} {nt nt' : Nat} {e e' : List (Nat × List (Nat × Bool) × AV)} {hp : List (Nat × HE)} {nx : Nat} {df df' : List Nat} (h : HSat cx n ⟨nt, e, hp, nx, df⟩ w) : HSat cx n ⟨nt', e', hp, nx, df'⟩ w :=
  ⟨h.fr, h.ini, h.inx, h.one, h.ents, fun x hx => HE.ok_same (h.oks x hx) rfl rfl, h.sep, h.lt, h.ids⟩
def FEq (a b : List (Nat × HE)) : List Nat → Prop
  | [] => True
  | i :: r => fnd a i = fnd b i ∧ FEq a b r
theorem FEq.all {a b : List (Nat × HE)} {l : List Nat} (h : FEq a b l) : ∀ i ∈ l, fnd a i = fnd b i := by
  induction l with
  | nil => intro i hi; cases hi
  | cons y r ih =>
    intro i hi
    rcases List.mem_cons.1 hi with rfl | hi
    · exact h.1
    · exact ih h.2 i hi
theorem Fz.fnds {s0 : AS} (ids : List Nat) (h : Fz s0 s) (h0 : s0.hp.map (·.1) = ids) (h1 : FEq s'.hp s.hp ids) (h2 : Nat.ble s.nx s'.nx = true) : Fz s0 s' := by
  refine ⟨Nat.le_trans h.nx (Nat.le_of_ble_eq_true h2), ?_, h.un⟩
  have hall := h1.all
  have all : ∀ l : List (Nat × HE), (∀ x ∈ l, x.1 ∈ ids) → SubP s.hp l → SubP s'.hp l := fun l => by
    induction l with
    | nil => intro _ _; trivial
    | cons y r ih =>
      intro hl hs
      exact ⟨(hall _ (hl y List.mem_cons_self)).trans hs.1, ih (fun x hx => hl x (List.mem_cons_of_mem _ hx)) hs.2⟩
  exact all _ (fun x hx => by rw [← h0]; exact List.mem_map.2 ⟨x, hx, rfl⟩) h.sub
theorem WPO_end {ops : Array Oper} {l : List Oper} (h : l.isEmpty = true) (hq : Q .normal s) : WPO P cx ops l s Q := by
  cases l with
  | nil => exact WPO_nil hq
  | cons o r => cases h
def JQ (cx : Cx) (S : AS) (Q : Exit → AS → Prop) : Exit → AS → Prop
  | .normal, s' => Le cx s' S
  | e, s' => Q e s'
theorem WP_join {c : Operand} {x y : Code} (b : Bool) (S : Bool → AS) (hc : ev s [] c = some (.s (.bool b))) (ht1 : b = true → WP P cx s x (JQ cx (S true) Q)) (hf : b = false → WP P cx s y (JQ cx (S false) Q)) (hK : Q .normal (S b)) : WP P cx s (.cond c x y) Q := by
  have key : ∀ (S0 : AS), Q .normal S0 → ∀ e a w, Post cx (JQ cx S0 Q) e a w → Post cx Q e a w := fun S0 hq e a w ⟨n, s', h, hs⟩ => by
    cases e with
    | normal => obtain ⟨n', hs'⟩ := h n a w hs; exact ⟨n', S0, hq, hs'⟩
    | _ => exact ⟨n, s', h, hs⟩
  refine WP_cond b hc (fun h => ?_) (fun h => ?_)
  · subst h; exact fun r m ht n a w hs => wpIn_mono (ht1 rfl r m ht n a w hs) (key _ hK)
  · subst h; exact fun r m ht n a w hs => wpIn_mono (hf rfl r m ht n a w hs) (key _ hK)
def arrEq {α : Type} [BEq α] (m : Nat) (f g : Nat → α) : Bool := ((List.range m).map f) == ((List.range m).map g)
theorem arrI_map (m : Nat) (f : Nat → Int) : arrI m f = ((List.range m).map f).map (AC.int .i64) := by simp [arrI]
theorem BinOk_fIn {m : Nat} {t : TypeId} {x y : Operand} (h : arrOf P (isI64 P) t m = true) (f g : Nat → Int) : BinOk P cx s .neq t x y (.g (arrI m f)) (.g (arrI m g)) (.s (.bool (!(arrEq m f g)))) := by
  rw [arrI_map, arrI_map]; exact (BinOk_arrI h (by simp) (by simp)).2
theorem vsOk {vs : List AV} (h : heOk.go s vs = true) : ∀ v ∈ vs, v.ok s := fun v hv => okB_sound (heOk_go h v hv)
theorem goes_of {k : FuncId} (h : (P.funcs[k]?).map (fun f => f.name != "runtime.NumGoroutine" && f.body.isSome) = some true) : goes P k := h
end
end Go.Proofs.YthfnedbpmdkdjaaDoor.Eng
namespace Go.Proofs.YthfnedbpmdkdjaaDoor.Eng
open Go Go.RowKit
set_option linter.unusedVariables false
set_option linter.unusedSimpArgs false
abbrev mapE {κ : Type} (g : Nat) (L : List κ) (ek ex : κ → Value) : HE := .jf (fun w => w.heap[g]? = some (.map (ents L ek ex) L.length)) (· = g)
theorem mapE_stab {κ : Type} {g : Nat} {L : List κ} {ek ex : κ → Value} (w1 w2 : World) (h : w1.heap[g]? = some (.map (ents L ek ex) L.length)) (hw : ∀ q, q = g → w2.heap[q]? = w1.heap[q]?) : w2.heap[g]? = some (.map (ents L ek ex) L.length) := (hw g rfl).trans h
section
variable {P : Program} {tt : TT} {cx : Cx} {s s' : AS} {Q : Exit → AS → Prop} {ops : Array Oper} {l : List Oper}
theorem MKMg {κ : Type} (ek ex : κ → Value) (d : Option Tmp) (h : mkmA s l = some d) (hp : ∀ g, ((s.add (mapE g ([] : List κ) ek ex)).put d [] (.s (.v (.map (some g))))).isSome = true)
    (hK : ∀ g, WPO P cx ops l.tail (((s.add (mapE g ([] : List κ) ek ex)).put d [] (.s (.v (.map (some g))))).getD s) Q) : WPO P cx ops l s Q := fun n a w hs => by
  cases l with
  | nil => cases h
  | cons o rest =>
    obtain ⟨s', hs'⟩ := Option.isSome_iff_exists.1 (hp w.heap.size)
    have hK1 := hK w.heap.size
    rw [hs'] at hK1
    simp only [mkmA] at h
    split at h <;> try (cases h; done)
    rename_i t ho hg
    cases h
    have hH : Holds a [] := fun x hx => by cases hx
    have hrun : (execOp a.eval o).run P w = .ok (.value (.map (some w.heap.size))) (w.alloc (.map (ents ([] : List κ) ek ex) ([] : List κ).length)) := by
      unfold execOp
      rw [ho]
      simp [Instr.makeMap, ents, run_newObj_alloc]
    have hh := hs.heap.add (e := mapE w.heap.size ([] : List κ) ek ex) (v := .nilFunc) (w' := w.alloc (.map (ents ([] : List κ) ek ex) ([] : List κ).length))
      ((Below.refl _ w).alloc (Nat.le_refl _) _) rfl ⟨World.alloc_heap_new w _, fun g hg => by cases hg; exact hs.heap.fr.news _ hs.heap.fr.size, mapE_stab⟩ trivial (fun g' hg' => by cases hg'; simp) (fun g' hg' => by cases hg'; exact .inl (Nat.le_refl _))
    exact wp_value (wanted_none (ops := ops) hg) hrun (hK1 _ _ _ (put_sat (env_add hs (upd_lt n s.nx _) hh) hs' (fun _ => ⟨rfl, trivial⟩) (fun hn => absurd hH hn)))
def mugA (tt : TT) (s : AS) : List Oper → Option (AV × TypeId × AV × AV × Option Tmp)
  | o :: _ => match o.op, o.guard with
    | .mapUpdate t m k x, none => match tyL tt t, ev s [] m, ev s [] k, ev s [] x with
      | some ⟨_, _, _, .map kt _⟩, some mv, some kv, some xv => some (mv, kt, kv, xv, o.dst)
      | _, _, _, _ => none
    | _, _ => none
  | [] => none
theorem MUPg (hT : TTok P tt) {κ : Type} (L : List κ) (ek ex : κ → Value) (x : κ) (id g : Nat) (kt : TypeId) (kv xv : AV) (h : mugA tt s l = some (.s (.v (.map (some g))), kt, kv, xv, none)) (hf : fnd s.hp id = some (mapE g L ek ex))
    (hk : ∀ n, kv.c n = ek x ∧ xv.c n = ex x) (hck : ∀ w, (Instr.checkKey false 10000 kt (ek x)).run P w = .ok () w) (hfind : ∀ w, (Instr.findKey kt (ek x) (ents L ek ex).toList).run P w = .ok none w)
    (hK : WPO P cx ops l.tail { s with hp := rep s.hp id (mapE g (L ++ [x]) ek ex) } Q) : WPO P cx ops l s Q := fun n a w hs => by
  cases l with
  | nil => cases h
  | cons o rest =>
    simp only [mugA] at h
    split at h <;> try (cases h; done)
    rename_i t m k xx ho hg
    split at h <;> try (cases h; done)
    rename_i z1 b1 zv kt' e mv' kv' xv' ht hm' hk' hx'
    simp only [Option.some.injEq, Prod.mk.injEq] at h
    obtain ⟨rfl, rfl, rfl, rfl, hdst⟩ := h
    obtain ⟨F⟩ := hT.get ht
    have hd : F.desc = .map kt' e := by
      have := F.td
      cases hd : F.desc <;> rw [hd] at this <;> simp only [tdOf] at this <;> first
        | (cases this; done)
        | (injection this with h1 h2; rw [h1, h2])
    have hH : Holds a [] := fun x hx => by cases hx
    obtain ⟨e1, _⟩ := ev_sound hs.env hH hm'
    obtain ⟨e2, _⟩ := ev_sound hs.env hH hk'
    obtain ⟨e3, _⟩ := ev_sound hs.env hH hx'
    obtain ⟨ho1, hok, _⟩ := hs.heap.ents _ (fnd_mem hf)
    rw [(hk n).1] at e2
    rw [(hk n).2] at e3
    simp only [AV.c, AC.c] at e1
    have hrun : (execOp a.eval o).run P w = .ok .skip (w.putObj g (.map (ents (L ++ [x]) ek ex) (L ++ [x]).length)) := by
      unfold execOp
      rw [ho]
      simp only [e1, e2, e3, Sem.run_bind, Instr.mapUpdate, run_underlying F.hdesc, hd, Result.andThen_ok, run_getObj' ho1, hck, hfind, run_setObj' ho1]
      rw [ents_snoc, List.length_append]
      rfl
    refine wp_skip1 (wanted_none (ops := ops) hg) hrun ?_
    rw [hdst]
    have hh := hs.heap.write (w' := w.putObj g (.map (ents (L ++ [x]) ek ex) (L ++ [x]).length)) (e := mapE g (L ++ [x]) ek ex) hf rfl (g := g) rfl rfl (fun _ => rfl) (Nat.le_refl _) (hok g rfl) (fun k hk => World.putObj_heap_other hk) World.putObj_size rfl rfl rfl
      ⟨World.putObj_heap_same (Array.getElem?_eq_some_iff.1 ho1).1, hok, mapE_stab⟩ trivial
    exact hK _ _ _ (env_hp hs (more_rep hf (Nat.le_refl _)) hh)
theorem HSat.two {n : Vn} {w : World} (h : HSat cx n s w) {i j : Nat} {F F' : World → Prop} {G G' : Nat → Prop} (hi : fnd s.hp i = some (.jf F G)) (hj : fnd s.hp j = some (.pf F' G')) (hij : Nat.beq i j = false) (m : Nat) (hm : cx.m0 ≤ m) (him : i < m) (hjm : j < m) :
    HSat cx n ⟨0, [], [(i, .jf F G), (j, .pf F' G')], m, []⟩ w := by
  have hmem : ∀ x ∈ [(i, HE.jf F G), (j, HE.pf F' G')], x ∈ s.hp := fun x hx => by
    rcases List.mem_cons.1 hx with rfl | hx
    · exact fnd_mem hi
    · rw [List.mem_singleton.1 hx]; exact fnd_mem hj
  refine ⟨h.fr, h.ini, hm, h.one, fun x hx => h.ents x (hmem x hx), fun x hx => ?_, ?_, fun x hx => h.lt x (hmem x hx), fun x hx => ?_⟩
  · rcases List.mem_cons.1 hx with rfl | hx
    · trivial
    · rw [List.mem_singleton.1 hx]; trivial
  · refine List.pairwise_cons.2 ⟨fun y hy => ?_, List.pairwise_singleton _ _⟩
    rw [List.mem_singleton.1 hy]
    have hsym : ∀ (x y : Nat × HE), Sep n x y → Sep n y x := fun x y h hm g h1 h2 => h hm.symm g h2 h1
    exact pw_mem hsym h.sep (fnd_mem hi) (fnd_mem hj) (fun e => by cases e)
  · rcases List.mem_cons.1 hx with rfl | hx
    · exact him
    · rw [List.mem_singleton.1 hx]; exact hjm
def mkfA (s : AS) : List Oper → Option (FuncId × List AV × List AV × Option Tmp)
  | o :: _ => match o.op, o.guard with
    | .makeFunc (.func f) fi ca, none => match evl s [] fi.toList, evl s [] ca.toList with
      | some u, some v => some (f, u, v, o.dst)
      | _, _ => none
    | _, _ => none
  | [] => none
def mkfP (s : AS) (l : List Oper) : Option AS :=
  match mkfA s l with
  | some (f, u, v, d) => (s.add (.clo f u v)).put d [] (.s (.ref s.nx))
  | none => none
theorem H_mkf {s0 : AS} (i : Nat) {fuel : Nat} {listed : Array Bool} (h : (mkfP s (opAt ops i)).isSome = true) (hs : Region.noSelect ops = true) (hb : takB ops listed i = true) (h4 : idsLt s.nx s0.hp = true)
    (hK : WPH P cx ops s0 fuel (listed.setIfInBounds i true) ((mkfP s (opAt ops i)).getD s) Q) : WPH P cx ops s0 (fuel + 1) listed s Q := fun hfz n0 h1 h2 one n a w hst hS => by
  obtain ⟨s', hs'⟩ := Option.isSome_iff_exists.1 h
  rw [hs'] at hK
  simp only [Option.getD_some] at hK
  unfold mkfP at hs'
  split at hs' <;> try (cases hs'; done)
  rename_i f u v d hA
  cases hl : opAt ops i with
  | nil => rw [hl] at hA; cases hA
  | cons o rest =>
    rw [hl] at hA
    simp only [mkfA] at hA
    split at hA <;> try (cases hA; done)
    rename_i f' fi ca ho hg
    split at hA <;> try (cases hA; done)
    rename_i u' v' hu hv
    simp only [Option.some.injEq, Prod.mk.injEq] at hA
    obtain ⟨rfl, rfl, rfl, rfl⟩ := hA
    simp only [takB, Bool.and_eq_true] at hb
    have hH : Holds a [] := fun x hx => by cases hx
    obtain ⟨e1, k1⟩ := evl_sound hst.env hH hu
    obtain ⟨e2, k2⟩ := evl_sound hst.env hH hv
    have hrun : ∀ w1, (execOp a.eval o).run P w1 = .ok (.value (.func (.func f') (u'.map (AV.c n)).toArray (v'.map (AV.c n)).toArray)) w1 := fun w1 => by
      have h1 : fi.map a.eval = (u'.map (AV.c n)).toArray := by apply Array.ext'; simpa using e1
      have h2 : ca.map a.eval = (v'.map (AV.c n)).toArray := by apply Array.ext'; simpa using e2
      unfold execOp
      rw [ho]
      simp only [h1, h2]
      rfl
    have hadd : HSat (cxAt cx n0 s0.nx) (upd n s.nx (.func (.func f') (u'.map (AV.c n)).toArray (v'.map (AV.c n)).toArray)) (s.add (.clo f' u' v')) w := by
      refine hst.heap.add (Below.refl _ w) rfl ?_ ⟨k1, k2⟩ (fun g hg => (by cases hg)) (fun g hg => (by cases hg))
      simp only [HE.sat]
      rw [List.map_congr_left fun x hx => AV.c_congr (k1 x hx) (upd_lt n s.nx _), List.map_congr_left fun x hx => AV.c_congr (k2 x hx) (upd_lt n s.nx _)]
    have hsat := put_sat (env_add hst (upd_lt n s.nx _) hadd) hs' (x := .func (.func f') (u'.map (AV.c n)).toArray (v'.map (AV.c n)).toArray) (fun _ => ⟨by simp only [AV.c, AC.c, upd_same], Nat.lt_succ_self _⟩) (fun hn => absurd (fun x hx => by cases hx) hn)
    have hfz' : Fz s0 s' := by
      have hsame := put_same hs'
      have := Fz.ext (s' := s.add (.clo f' u' v')) 1 hfz rfl (by simp [AS.add, idsIn]) (Nat.ble_eq_true_of_le (Nat.le_succ _)) h4
      exact this.same hsame.1 hsame.2.1
    have hQp : ∀ c a w, PN cx Q (.panic c) (a.put o.dst (.func (.func f') (u'.map (AV.c n)).toArray (v'.map (AV.c n)).toArray)) w → PN cx Q (.panic c) a w := fun c a w h => by cases h.1
    exact wpAnyH_take (opAt_cons hl) hs hb.1 hb.2 hQp (.inl ⟨wanted_none (ops := ops) hg, fun w' _ => hrun w'⟩) hS (hK hfz' n0 h1 h2 one _ _ w hsat hS)
def NG (Q : Exit → AS → Prop) : Exit → AS → Prop
  | .goto _, _ => False
  | e, s => Q e s
theorem stepR_scope {b : Frame} {a : Act} {k : List Item} {cs : List Frame} {w : World} {c : Code} : step P (lone (b.atR a (.code (.scope c) :: k)) cs w) = .next (lone (b.atR a (.code c :: .inScope c :: k)) cs w) :=
  step_lone_go (by simp [stepG, stepG.exec, Frame.atR])
theorem stepR_inScope {b : Frame} {a : Act} {k : List Item} {cs : List Frame} {w : World} {c : Code} : step P (lone (b.atR a (.inScope c :: k)) cs w) = .next (lone (b.atR a k) cs w) :=
  step_lone_go (by simp [stepG, stepG.exec, Frame.atR])
theorem WP_scope {c : Code} (h : WP P cx s c (NG Q)) : WP P cx s (.scope c) Q := fun r m ht n a w hs b k cs hro hb hr => by
  have h0 : (lone (b.atR a (.code (.scope c) :: k)) cs w).fenced P (Fn r) := fenced_calm hb hr rfl
  obtain ⟨e, a₁, w₁, ⟨n1, s1, hq, hs1⟩, harr⟩ := h r m ht n a w hs b (.inScope c :: k) cs hro hb hr
  cases e with
  | normal => exact ⟨.normal, a₁, w₁, ⟨n1, s1, hq, hs1⟩, .head h0 stepR_scope (StepsIn.trans harr (.one (fenced_calm hb hr rfl) stepR_inScope))⟩
  | exit id => exact ⟨_, a₁, w₁, ⟨n1, s1, hq, hs1⟩, .of_steps (.one h0 stepR_scope) ⟨fun k' hk => harr.1 k' (by simp [exitTo, hk]), fun hr' hk => by
      obtain ⟨k₁, h1, h2⟩ := harr.2 hr' (by simp [exitTo, hk]); exact ⟨k₁, h1, h2⟩⟩⟩
  | goto l => exact hq.elim
  | ret => exact ⟨_, a₁, w₁, ⟨n1, s1, hq, hs1⟩, .of_steps (.one h0 stepR_scope) harr⟩
  | panic ch => exact ⟨_, a₁, w₁, ⟨n1, s1, hq, hs1⟩, .of_steps (.one h0 stepR_scope) harr⟩
  | outgrown => exact ⟨_, a₁, w₁, ⟨n1, s1, hq, hs1⟩, .of_steps (.one h0 stepR_scope) harr⟩
end
end Go.Proofs.YthfnedbpmdkdjaaDoor.Eng
namespace Go.Proofs.YthfnedbpmdkdjaaDoor.Eng
open Go Go.RowKit
set_option linter.unusedVariables false
set_option linter.unusedSimpArgs false
def AC.ren (f : Nat → Nat) : AC → AC
  | .p id o => .p (f id) o
  | .pi id i sz o => .pi (f id) i sz o
  | .ep id i sz o => .ep (f id) i sz o
  | .ref id => .ref (f id)
  | .sb id o sz l h m => .sb (f id) o sz l h m
  | c => c
def renL (f : Nat → Nat) : List AC → List AC
  | [] => []
  | c :: r => c.ren f :: renL f r
def renP (f : Nat → Nat) : List (Bool × List AC) → List (Bool × List AC)
  | [] => []
  | x :: r => (x.1, renL f x.2) :: renP f r
def AV.ren (f : Nat → Nat) : AV → AV
  | .s c => .s (c.ren f)
  | .g cs => .g (renL f cs)
  | .t vs => .t (renP f vs)
def renV (f : Nat → Nat) : List AV → List AV
  | [] => []
  | v :: r => v.ren f :: renV f r
def HE.ren (f : Nat → Nat) : HE → HE
  | .box ty cs => .box ty (renL f cs)
  | .lit e m cs => .lit e m (renL f cs)
  | .clo k u v => .clo k (renV f u) (renV f v)
  | .sl kd e sz l enc z => .sl kd e sz l enc z
  | .pf F G => .pf F G
  | .jf F G => .jf F G
  | .ob b o => .ob b o
theorem AC.ren_c (f : Nat → Nat) (n : Vn) (c : AC) : (c.ren f).c n = c.c (fun id => n (f id)) := by cases c <;> rfl
theorem renL_c (f : Nat → Nat) (n : Vn) (cs : List AC) : (renL f cs).map (AC.c n) = cs.map (AC.c fun id => n (f id)) := by
  induction cs with
  | nil => rfl
  | cons c r ih => simp only [renL, List.map_cons, ih, AC.ren_c]
theorem part1_ren (f : Nat → Nat) (n : Vn) (x : Bool × List AC) : part1 n (x.1, renL f x.2) = part1 (fun id => n (f id)) x := by
  obtain ⟨b, cs⟩ := x
  cases b
  · match cs with
    | [] => rfl
    | [c] => exact AC.ren_c f n c
    | _ :: _ :: _ => rfl
  · simp only [part1, cellsV, renL_c]
theorem AV.ren_c (f : Nat → Nat) (n : Vn) (v : AV) : (v.ren f).c n = v.c (fun id => n (f id)) := by
  cases v with
  | s c => exact AC.ren_c f n c
  | g cs => simp only [AV.ren, AV.c, cellsV, renL_c]
  | t vs =>
    simp only [AV.ren, AV.c]
    congr 2
    induction vs with
    | nil => rfl
    | cons x r ih => simp only [renP, List.map_cons, ih, part1_ren]
theorem renV_c (f : Nat → Nat) (n : Vn) (l : List AV) : (renV f l).map (AV.c n) = l.map (AV.c fun id => n (f id)) := by
  induction l with
  | nil => rfl
  | cons v r ih => simp only [renV, List.map_cons, ih, AV.ren_c]
theorem HE.ren_mut (f : Nat → Nat) (e : HE) : (e.ren f).mut = e.mut := by cases e <;> rfl
theorem HE.ren_foot (f : Nat → Nat) (e : HE) (x : Value) : (e.ren f).foot x = e.foot x := by
  cases e with
  | sl kd e sz l enc z => cases kd <;> rfl
  | _ => rfl
theorem HE.ren_sat (f : Nat → Nat) (n : Vn) (ok : Nat → Prop) (w : World) (x : Value) (e : HE) (h : (e.ren f).sat n ok w x) : e.sat (fun id => n (f id)) ok w x := by
  cases e with
  | box ty cs => simp only [HE.ren, HE.sat, cellsV, renL_c] at h; exact h
  | lit e m cs => simp only [HE.ren, HE.sat, cellsV, renL_c] at h; exact h
  | clo k u v => simp only [HE.ren, HE.sat, renV_c] at h; exact h
  | sl kd e sz l enc z => cases kd <;> exact h
  | pf F G => exact h
  | jf F G => exact h
  | ob b o => exact h
def rnm : List (Nat × Nat) → Nat → Nat
  | [], i => i
  | x :: r, i => bif Nat.beq x.1 i then x.2 else rnm r i
def inj : List (Nat × HE) → (Nat → Nat) → Bool
  | [], _ => true
  | x :: r, f => !(r.any fun y => Nat.beq (f x.1) (f y.1)) && inj r f
theorem inj_spec {l : List (Nat × HE)} {f : Nat → Nat} (h : inj l f = true) : l.Pairwise fun x y => f x.1 ≠ f y.1 := by
  induction l with
  | nil => exact List.Pairwise.nil
  | cons y r ih =>
    simp only [inj, Bool.and_eq_true, Bool.not_eq_true'] at h
    refine List.pairwise_cons.2 ⟨fun x hx e => ?_, ih h.2⟩
    have := List.any_eq_false.1 h.1 x hx
    rw [e, Nat.beq_refl] at this; exact this rfl
def heOks (s : AS) : List (Nat × HE) → Bool
  | [] => true
  | x :: r => heOk s x.2 && Nat.ble (x.1 + 1) s.nx && heOks s r
theorem heOks_spec {s : AS} {l : List (Nat × HE)} (h : heOks s l = true) : ∀ x ∈ l, x.2.ok s ∧ x.1 < s.nx := by
  induction l with
  | nil => intro x hx; cases hx
  | cons y r ih =>
    simp only [heOks, Bool.and_eq_true] at h
    intro x hx
    rcases List.mem_cons.1 hx with rfl | hx
    · exact ⟨heOk_sound (Nat.le_refl _) h.1.1, Nat.le_of_ble_eq_true h.1.2⟩
    · exact ih h.2 x hx
def RenH (f : Nat → Nat) (hp : List (Nat × HE)) : List (Nat × HE) → Prop
  | [] => True
  | x :: r => fnd hp (f x.1) = some (x.2.ren f) ∧ RenH f hp r
theorem RenH.all {f : Nat → Nat} {hp l : List (Nat × HE)} (h : RenH f hp l) : ∀ x ∈ l, fnd hp (f x.1) = some (x.2.ren f) := by
  induction l with
  | nil => intro x hx; cases hx
  | cons y r ih =>
    intro x hx
    rcases List.mem_cons.1 hx with rfl | hx
    · exact h.1
    · exact ih h.2 x hx
def RenE (f : Nat → Nat) (env : List (Nat × List (Nat × Bool) × AV)) (s : AS) : List (Nat × List (Nat × Bool) × AV) → Prop
  | [] => True
  | x :: r => look env x.1 = some ([], x.2.2.ren f) ∧ x.2.1 = [] ∧ okB s x.2.2 = true ∧ RenE f env s r
theorem RenE.all {f : Nat → Nat} {env l : List (Nat × List (Nat × Bool) × AV)} {s : AS} (h : RenE f env s l) : ∀ x ∈ l, look env x.1 = some ([], x.2.2.ren f) ∧ x.2.1 = [] ∧ okB s x.2.2 = true := by
  induction l with
  | nil => intro x hx; cases hx
  | cons y r ih =>
    intro x hx
    rcases List.mem_cons.1 hx with rfl | hx
    · exact ⟨h.1, h.2.1, h.2.2.1⟩
    · exact ih h.2.2.2 x hx
def rnmOk (m : Nat) : List (Nat × Nat) → Bool
  | [] => true
  | x :: r => Nat.ble m x.1 && rnmOk m r
theorem rnm_id {m : Nat} {rs : List (Nat × Nat)} (h : rnmOk m rs = true) : ∀ id, id < m → rnm rs id = id := by
  induction rs with
  | nil => intro id _; rfl
  | cons x r ih =>
    simp only [rnmOk, Bool.and_eq_true] at h
    intro id hid
    have := Nat.le_of_ble_eq_true h.1
    have hb : Nat.beq x.1 id = false := by
      rcases hb : Nat.beq x.1 id with _ | _
      · rfl
      · have := Nat.eq_of_beq_eq_true hb; omega
    simp only [rnm, hb, cond_false]
    exact ih h.2 id hid
section
variable {P : Program} {cx : Cx} {s s2 : AS} {Q : Exit → AS → Prop}
theorem HSat.ren {n : Vn} {w : World} (h : HSat cx n s w) (rs : List (Nat × Nat)) (h1 : RenH (rnm rs) s.hp s2.hp) (hi : inj s2.hp (rnm rs) = true) (ho : heOks s2 s2.hp = true) (hm : ∀ id, id < cx.m0 → rnm rs id = id) (hm0 : cx.m0 ≤ s2.nx) :
    HSat cx (fun id => n (rnm rs id)) s2 w := by
  have hall := h1.all
  have hos := heOks_spec ho
  refine ⟨h.fr, fun id hid => by show n (rnm rs id) = _; rw [hm id hid]; exact h.ini id hid, hm0, fun id => h.one _, fun x hx => HE.ren_sat _ _ _ _ _ _ (h.ents _ (fnd_mem (hall x hx))), fun x hx => (hos x hx).1, ?_, fun x hx g hg => h.lt _ (fnd_mem (hall x hx)) g (by rw [HE.ren_foot]; exact hg), fun x hx => (hos x hx).2⟩
  refine (inj_spec hi).imp_of_mem fun {x y} hx hy hne hmut g hg hgy => ?_
  have hsym : ∀ (x y : Nat × HE), Sep n x y → Sep n y x := fun x y h hm g h1 h2 => h hm.symm g h2 h1
  refine pw_mem hsym h.sep (fnd_mem (hall x hx)) (fnd_mem (hall y hy)) (fun e => hne (congrArg (·.1) e)) ?_ g ?_ ?_
  · simp only [HE.ren_mut]; exact hmut
  · simp only [HE.ren_foot]; exact hg
  · simp only [HE.ren_foot]; exact hgy
theorem Le_ren (rs : List (Nat × Nat)) (h1 : RenH (rnm rs) s.hp s2.hp) (h2 : RenE (rnm rs) s.env s2 s2.env) (hi : inj s2.hp (rnm rs) = true) (ho : heOks s2 s2.hp = true) (hm : ∀ id, id < cx.m0 → rnm rs id = id) (hm0 : cx.m0 ≤ s2.nx) (hnt : s2.nt = s.nt) (hdf : s2.df = s.df) : Le cx s s2 := fun n a w hs => by
  refine ⟨fun id => n (rnm rs id), hs.heap.ren rs h1 hi ho hm hm0, by rw [hnt]; exact hs.size, fun x hx => ?_, by rw [hdf]; exact hs.defers⟩
  obtain ⟨e1, e2, e3⟩ := h2.all x hx
  have he := hs.env _ (look_mem e1)
  refine ⟨by rw [hnt]; exact he.lt, fun _ => ⟨?_, okB_sound e3⟩, fun hn => absurd (by rw [e2]; intro z hz; cases hz) hn⟩
  have := he.yes (fun z hz => by cases hz)
  rw [this.1]
  exact AV.ren_c _ _ _
end
end Go.Proofs.YthfnedbpmdkdjaaDoor.Eng
namespace Go.Proofs.YthfnedbpmdkdjaaDoor.Eng
open Go Go.RowKit
set_option linter.unusedVariables false
set_option linter.unusedSimpArgs false
section
variable {P : Program} {tt : TT} {cx : Cx} {s s' : AS} {Q : Exit → AS → Prop} {ops : Array Oper} {l : List Oper}
theorem WP_fact {c : Code} {p : Prop} (hp : ∀ n a w, Sat cx n s a w → p) (h : p → WP P cx s c Q) : WP P cx s c Q := fun r m ht n a w hs => h (hp n a w hs) r m ht n a w hs
theorem more_ext (k : Nat) {s1 : AS} (h1 : s1.hp.drop k = s.hp) (h2 : idsIn s.nx (s1.hp.take k) = true) (h3 : Nat.ble s.nx s1.nx = true) : More s s1 := by
  refine ⟨Nat.le_of_ble_eq_true h3, fun id hid e he => ⟨e, ?_, Nat.le_refl _⟩⟩
  have key : ∀ (l r : List (Nat × HE)), idsIn s.nx l = true → fnd (l ++ r) id = fnd r id := fun l r => by
    induction l with
    | nil => intro _; rfl
    | cons x l ih =>
      intro h
      simp only [idsIn, Bool.and_eq_true] at h
      have := Nat.le_of_ble_eq_true h.1
      rw [List.cons_append, fnd_cons_ne (by omega), ih h.2]
  rw [← List.take_append_drop k s1.hp, key _ _ h2, h1] at he
  exact he
end
end Go.Proofs.YthfnedbpmdkdjaaDoor.Eng
namespace Go.Proofs.YthfnedbpmdkdjaaDoor.Eng
open Go Go.RowKit
set_option linter.unusedVariables false
set_option linter.unusedSimpArgs false
section
variable {P : Program} {tt : TT} {cx : Cx} {s s' : AS} {Q : Exit → AS → Prop} {ops : Array Oper} {l : List Oper}
def envIn (m : Nat) (s : AS) : List (Nat × List (Nat × Bool) × AV) → Prop
  | [] => True
  | x :: r => look s.env x.1 = some ([], x.2.2) ∧ x.2.1 = [] ∧ okB ⟨0, [], [], m, []⟩ x.2.2 = true ∧ envIn m s r
theorem envIn.all {m : Nat} {l : List (Nat × List (Nat × Bool) × AV)} (h : envIn m s l) : ∀ x ∈ l, look s.env x.1 = some ([], x.2.2) ∧ x.2.1 = [] ∧ okB ⟨0, [], [], m, []⟩ x.2.2 = true := by
  induction l with
  | nil => intro x hx; cases hx
  | cons y r ih =>
    intro x hx
    rcases List.mem_cons.1 hx with rfl | hx
    · exact ⟨h.1, h.2.1, h.2.2.1⟩
    · exact ih h.2.2.2 x hx
end
end Go.Proofs.YthfnedbpmdkdjaaDoor.Eng
namespace Go.Proofs.YthfnedbpmdkdjaaDoor.Eng
open Go Go.RowKit
set_option linter.unusedVariables false
set_option linter.unusedSimpArgs false
def left (m : Nat) (sn : List Nat) : Nat := ((List.range m).filter fun i => !sn.contains i).length
end Go.Proofs.YthfnedbpmdkdjaaDoor.Eng
namespace Go.Proofs.YthfnedbpmdkdjaaDoor.Eng
open Go Go.RowKit
set_option linter.unusedVariables false
set_option linter.unusedSimpArgs false
section
variable {P : Program} {tt : TT} {cx : Cx} {s s' : AS} {Q : Exit → AS → Prop} {ops : Array Oper} {l : List Oper}
def nilE (id : Nat) (ts : List Nat) : List (Nat × List (Nat × Bool) × AV) → List (Nat × List (Nat × Bool) × AV)
  | [] => []
  | x :: r => (match memN x.1 ts, x.2.2 with
    | true, .s (.v (.slice none 0 0)) => (x.1, x.2.1, .s (.ref id))
    | _, _ => x) :: nilE id ts r
theorem nilE_mem {id : Nat} {ts : List Nat} {l : List (Nat × List (Nat × Bool) × AV)} {x : Nat × List (Nat × Bool) × AV} (h : x ∈ nilE id ts l) : x ∈ l ∨ ∃ y ∈ l, y.2.2 = .s (.v (.slice none 0 0)) ∧ x = (y.1, y.2.1, .s (.ref id)) := by
  induction l with
  | nil => cases h
  | cons z r ih =>
    simp only [nilE] at h
    rcases List.mem_cons.1 h with h | h
    · split at h
      · rename_i h1 h2; exact .inr ⟨z, List.mem_cons_self, h2, h⟩
      · exact .inl (h ▸ List.mem_cons_self)
    · rcases ih h with h | ⟨y, hy, h1, h2⟩
      · exact .inl (List.mem_cons_of_mem _ h)
      · exact .inr ⟨y, List.mem_cons_of_mem _ hy, h1, h2⟩
theorem Le_nilT (ts : List Nat) (e : TypeId) (sz : Nat) {α : Type} (enc : α → List Value) (z : α) (henc : ∀ y, (enc y).length = sz) :
    Le cx s { s.add (.sl .own e sz ([] : List α) enc z) with env := nilE s.nx ts s.env } := fun n a w hs => by
  have hh : HSat cx (upd n s.nx (.slice none 0 0)) (s.add (.sl .own e sz ([] : List α) enc z)) w :=
    hs.heap.add (Below.refl _ _) rfl ⟨henc, fun g hg => (by cases hg), by rw [show flat ([] : List α) enc = [] from rfl]; exact ⟨by simp, .inl ⟨rfl, by simp⟩⟩⟩ trivial (fun g hg => (by cases hg)) (fun g hg => (by cases hg))
  have hst := env_add hs (upd_lt n s.nx _) hh
  refine ⟨_, hh.env, hst.size, fun x hx => ?_, hst.defers⟩
  rcases nilE_mem hx with hx | ⟨y, hy, h1, rfl⟩
  · exact (hst.env x hx).same rfl rfl rfl
  · have hey := hst.env y hy
    refine ⟨hey.lt, fun hH => ⟨?_, Nat.lt_succ_self _⟩, hey.no⟩
    have := (hey.yes hH).1
    rw [h1] at this
    rw [this]
    simp only [AV.c, AC.c]
    exact (upd_same _ _ _).symm
theorem CallOk.new {k : FuncId} {vs : List AV} {e : TypeId} {sz : Nat} {α : Type} {li : List α} {enc : α → List Value} {z : α} (hsz : 0 < sz) (henc : ∀ y, (enc y).length = sz)
    (h : ∀ n w, HSat cx n s w → Calls P k (vs.map (AV.c n)).toArray w fun e w' => ∃ v, e = .returned v ∧ Below w.heap.size w w' ∧ Reads w' v sz li enc z ∧ (∀ g, vblk v = some g → 0 < li.length → w.heap.size ≤ g)) :
    CallOk P cx s k vs (.s (.ref s.nx)) (s.add (.sl .ro e sz li enc z)) := fun n w hh => (h n w hh).mono fun e w' ⟨v, h1, h2, h3, h4⟩ =>
  ⟨upd n s.nx v, upd_lt n s.nx v, by rw [h1]; simp only [AV.c, AC.c]; rw [upd_same], hh.add h2 h3.one ⟨henc, h3⟩ trivial (fun g ⟨hg1, hg2⟩ => by
    obtain ⟨A, c, rfl, _, _, h5⟩ := h3
    obtain ⟨ad, rfl, hc⟩ := h5 hg2
    have := World.block_lt_of_cell? w' _ (hc 0 hg2 0 hsz)
    rw [add_block] at this
    simp only [vblk, Option.some.injEq] at hg1
    rw [← hg1]; exact this) (fun g ⟨hg1, hg2⟩ => .inl (h4 g hg1 hg2))⟩
theorem CALLX {σ : Type} (k : FuncId) (vs : List AV) (s1 : σ → AS) (r : σ → AV) (h : (callA ops s l).map (fun x => (x.1, x.2.1, x.2.2.2.2)) = some (k, vs, [])) (hgo : goes P k) (hp : ∀ x, (callPN ops s l (s1 x) (r x)).isSome = true) (hr : ∀ x, okB (s1 x) (r x) = true)
    (hm : ∀ x, More s (s1 x)) (he : ∀ x, (s1 x).env = s.env ∧ (s1 x).nt = s.nt ∧ (s1 x).df = s.df)
    (hcall : ∀ n w, HSat cx n s w → Calls P k (vs.map (AV.c n)).toArray w fun e w' => ∃ x n', (∀ id, id < s.nx → n' id = n id) ∧ e = .returned ((r x).c n') ∧ HSat cx n' (s1 x) w')
    (hK : ∀ x, WPO P cx ops l.tail ((callPN ops s l (s1 x) (r x)).getD s) Q) : WPO P cx ops l s Q := by
  obtain ⟨⟨k', vs', G', d, T⟩, hr', he'⟩ := Option.map_eq_some_iff.1 h
  simp only [Prod.mk.injEq] at he'
  obtain ⟨rfl, rfl, rfl⟩ := he'
  obtain ⟨o, rest, c, x, v, u, cp, vs'', rfl, ho, hg, hc, hv, ht, hvs, rfl, _, rfl⟩ := callA_spec hr'
  intro n a w hs
  have hH : Holds a [] := fun x hx => by cases hx
  have hgt := gTag_sound hs hg
  have hrun := call_run hs.env hs.heap hH ho hc hv ht hvs hgo
  have hca := hcall n w hs.heap
  unfold wpList
  rw [if_pos (hgt.2 hH)]
  left
  unfold Oper.wp
  rw [hrun]
  refine hca.mono fun e w' ⟨x, n', hag, he', hh'⟩ => ?_
  subst he'
  obtain ⟨s', hs'⟩ := Option.isSome_iff_exists.1 (hp x)
  have hK' := hK x
  rw [hs'] at hK'
  simp only [callPN, hr'] at hs'
  obtain ⟨he1, he2, he3⟩ := he x
  have hst : Sat cx n' (s1 x) a w' := by
    refine ⟨hh', by rw [he2]; exact hs.size, fun y hy => ?_, by rw [he3]; exact hs.defers⟩
    rw [he1] at hy
    have := hs.env y hy
    refine ⟨by rw [he2]; exact this.lt, fun hH => ?_, this.no⟩
    obtain ⟨h1, h2⟩ := this.yes hH
    exact ⟨by rw [h1, AV.c_congr h2 hag], AV.ok_more h2 (hm x)⟩
  exact hK' _ _ _ (put_sat hst hs' (fun _ => ⟨rfl, okB_sound (hr x)⟩) (fun hn => absurd hH hn))
theorem CallOk.newR {k : FuncId} {vs : List AV} {r : AV} {e : TypeId} {sz : Nat} {α : Type} {li : List α} {enc : α → List Value} {z : α} (hsz : 0 < sz) (henc : ∀ y, (enc y).length = sz)
    (h : ∀ n w, HSat cx n s w → Calls P k (vs.map (AV.c n)).toArray w fun e w' => ∃ v, e = .returned (r.c (upd n s.nx v)) ∧ Below w.heap.size w w' ∧ Reads w' v sz li enc z ∧ (∀ g, vblk v = some g → 0 < li.length → w.heap.size ≤ g)) :
    CallOk P cx s k vs r (s.add (.sl .ro e sz li enc z)) := fun n w hh => (h n w hh).mono fun e w' ⟨v, h1, h2, h3, h4⟩ =>
  ⟨upd n s.nx v, upd_lt n s.nx v, h1, hh.add h2 h3.one ⟨henc, h3⟩ trivial (fun g ⟨hg1, hg2⟩ => by
    obtain ⟨A, c, rfl, _, _, h5⟩ := h3
    obtain ⟨ad, rfl, hc⟩ := h5 hg2
    have := World.block_lt_of_cell? w' _ (hc 0 hg2 0 hsz)
    rw [add_block] at this
    simp only [vblk, Option.some.injEq] at hg1
    rw [← hg1]; exact this) (fun g ⟨hg1, hg2⟩ => .inl (h4 g hg1 hg2))⟩
end
end Go.Proofs.YthfnedbpmdkdjaaDoor.Eng
namespace Go.Proofs.YthfnedbpmdkdjaaDoor.Eng
open Go Go.RowKit
set_option linter.unusedVariables false
set_option linter.unusedSimpArgs false
abbrev slE (v : Value) (sz : Nat) {α : Type} (li : List α) (enc : α → List Value) (z : α) : HE := .jf (fun w => Reads w v sz li enc z) (fun g => vblk v = some g)
theorem Reads.stab {w1 w2 : World} {v : Value} {sz : Nat} {α : Type} {li : List α} {enc : α → List Value} {z : α} (h : Reads w1 v sz li enc z) (hw : ∀ g, vblk v = some g → w2.heap[g]? = w1.heap[g]?) : Reads w2 v sz li enc z := by
  obtain ⟨A, c, rfl, h2, h3, h4⟩ := h
  refine ⟨A, c, rfl, h2, h3, fun hp => ?_⟩
  obtain ⟨ad, rfl, hc⟩ := h4 hp
  refine ⟨ad, rfl, fun j hj o ho => ?_⟩
  rw [World.cell?_of_block (w := w1)]
  · exact hc j hj o ho
  · rw [add_block]; exact hw _ rfl
section
variable {P : Program} {tt : TT} {cx : Cx} {s s' : AS} {Q : Exit → AS → Prop} {ops : Array Oper} {l : List Oper}
theorem SLCF (hT : TTok P tt) (id : Nat) (e : TypeId) (sz : Nat) {α : Type} (li : List α) (enc : α → List Value) (z : α) (d : Option Tmp) (h : slcA tt s l = some (id, .own, e, sz, li.length, 0, (li.length : Int), some (li.length : Int), d)) (hf : fnd s.hp id = some (.sl .own e sz li enc z))
    (hp : ∀ v, (AS.put (AS.add { s with hp := rem s.hp id } (slE v sz li enc z)) d [] (.s (.v v))).isSome = true)
    (hK : ∀ v, WPO P cx ops l.tail ((AS.put (AS.add { s with hp := rem s.hp id } (slE v sz li enc z)) d [] (.s (.v v))).getD s) Q) : WPO P cx ops l s Q := by
  cases l with
  | nil => cases h
  | cons o rest =>
    simp only [slcA] at h
    split at h <;> try (cases h; done)
    rename_i t x lo hi mx' ho hg
    split at h <;> try (cases h; done)
    rename_i id' hx
    split at h <;> try (cases h; done)
    rename_i kd' e' sz' α' li' enc' z' hf'
    rcases hb : (isSlK tt t e' && isSz tt e' sz' && (mx'.isNone || hi.isSome)) with _ | _
    · rw [hb] at h; cases h
    · rw [hb] at h
      simp only [Bool.and_eq_true] at hb
      simp only [cond_true] at h
      split at h <;> try (cases h; done)
      rename_i i' j' m' hlo hhi hmx
      simp only [Option.some.injEq, Prod.mk.injEq] at h
      obtain ⟨rfl, rfl, rfl, rfl, _, rfl, rfl, rfl, rfl⟩ := h
      rw [hf] at hf'
      cases hf'
      intro n a w hs
      have hw : Region.wanted o (yielded ops a.tmps) = true := by simp [Region.wanted, hg]
      have hH : Holds a [] := fun x hx => by cases hx
      obtain ⟨tti, htt, htd⟩ := Option.map_eq_some_iff.1 (isSlK_spec hb.1.1)
      obtain ⟨ei, hee, hes⟩ := Option.map_eq_some_iff.1 (isSz_spec hb.1.2)
      obtain ⟨F⟩ := hT.get htt
      obtain ⟨G⟩ := hT.get hee
      have hd : F.desc = .slice e' := by
        have := F.td
        rw [htd] at this
        cases hd : F.desc <;> rw [hd] at this <;> simp only [tdOf] at this <;> first
          | (cases this; done)
          | (injection this with h; rw [h])
      have hr := hs.heap.reads hf
      obtain ⟨A, c, hv, hlc, hcm, hA⟩ := sl_addr hs.heap hf
      obtain ⟨ex, _⟩ := ev_sound hs.env hH hx
      simp only [AV.c, AC.c] at ex
      have hbnd : ∀ (dv : Int) (q : Option Operand) (r : Int), bnd s dv q = some r → bv dv (q.map a.eval) r := fun dv q r hq => by
        cases q with
        | none => simp only [bnd] at hq; cases hq; rfl
        | some q =>
          simp only [bnd] at hq
          split at hq
          · rename_i r' hr'
            cases hq
            obtain ⟨e1, _⟩ := ev_sound hs.env hH hr'
            exact e1
          · cases hq
      have hmv : bv (c : Int) (mx'.map a.eval) (li.length : Int) := by
        cases mx' with
        | none => cases hmx
        | some q =>
          obtain ⟨m, hm, hm2⟩ := Option.map_eq_some_iff.1 hmx
          cases hm2
          exact hbnd 0 (some q) _ hm
      have hrun : (execOp a.eval o).run P w = .ok (.value (.slice (if ((li.length : Nat) : Int).toNat = (0 : Int).toNat then A else A.map (·.add ((0 : Int).toNat * sz'))) (((li.length : Nat) : Int).toNat - (0 : Int).toNat) (((li.length : Nat) : Int).toNat - (0 : Int).toNat))) w := by
        unfold execOp
        rw [ho]
        have hbs := run_bounds (P := P) (w := w) (len := li.length) (cap := c) (lo := lo.map a.eval) (hi := hi.map a.eval) (mx := mx'.map a.eval) (i := 0) (j := (li.length : Int)) (m := (li.length : Int)) (hbnd 0 lo 0 hlo) (hbnd _ hi _ hhi) hmv (by simpa using hb.2) ⟨by omega, by omega, by omega, by omega⟩
        simp only [Instr.sliceAt, ex, hv, Sem.run_bind, run_underlying F.hdesc, hd, Result.andThen_ok, Instr.slice, hbs, run_sizeOf' G, hes, Sem.run_pure]
      have hcr := cut_reads (w := w) (A := A) (c := c) (m := (li.length : Int)) (i := 0) (j := (li.length : Int)) (by rw [← hv]; exact hr) ⟨by omega, by omega, by omega⟩ ⟨by omega, by omega⟩
      have hcut : cut li 0 (li.length : Int) = li := by simp [cut]
      rw [hcut] at hcr
      have hblk : ∀ g, vblk (Value.slice (if ((li.length : Nat) : Int).toNat = (0 : Int).toNat then A else A.map (·.add ((0 : Int).toNat * sz'))) (((li.length : Nat) : Int).toNat - (0 : Int).toNat) (((li.length : Nat) : Int).toNat - (0 : Int).toNat)) = some g → vblk (n id') = some g := by
        rw [hv]
        intro g hg
        cases A with
        | none => split at hg <;> cases hg
        | some ad =>
          split at hg
          · exact hg
          · simpa [vblk, add_block] using hg
      generalize Value.slice (if ((li.length : Nat) : Int).toNat = (0 : Int).toNat then A else A.map (·.add ((0 : Int).toNat * sz'))) (((li.length : Nat) : Int).toNat - (0 : Int).toNat) (((li.length : Nat) : Int).toNat - (0 : Int).toNat) = V at hrun hcr hblk
      have he0 := hs.heap.ents _ (fnd_mem hf)
      have hdis : ∀ x ∈ rem s.hp id', ∀ g, x.2.foot (n x.1) g → vblk (n id') ≠ some g := fun x hx g hg hv => by
        have hsym : ∀ (x y : Nat × HE), ((x.2.mut = true ∨ y.2.mut = true) → ∀ g, x.2.foot (n x.1) g → ¬ y.2.foot (n y.1) g) → ((y.2.mut = true ∨ x.2.mut = true) → ∀ g, y.2.foot (n y.1) g → ¬ x.2.foot (n x.1) g) :=
          fun x y h hm g h1 h2 => h hm.symm g h2 h1
        exact pw_mem hsym hs.heap.sep ((rem_sub s.hp id').subset hx) (fnd_mem hf) (fun e => rem_ne hx (by rw [e])) (.inr rfl) g hg hv
      have hs0 : Sat cx n { s with hp := rem s.hp id' } a w := env_hp hs (rem_more s id') (hs.heap.rem id')
      have hs1 : Sat cx (upd n s.nx .nilFunc) (AS.add { s with hp := rem s.hp id' } (slE V sz' li enc z)) a w :=
        env_add hs0 (upd_lt n s.nx _) (hs0.heap.add (Below.refl _ _) rfl ⟨hcr, fun g hg => he0.2.1 g (hblk g hg), fun w1 w2 h hw => h.stab hw⟩ trivial (fun g hg => hs.heap.lt _ (fnd_mem hf) g (hblk g hg)) (fun g hg => .inr fun x hx _ hxg => hdis x hx g hxg (hblk g hg)))
      obtain ⟨s', hs'⟩ := Option.isSome_iff_exists.1 (hp V)
      have hK' := hK V
      rw [hs'] at hK'
      exact wp_value hw hrun (hK' _ _ _ (put_sat hs1 hs' (fun _ => ⟨rfl, trivial⟩) (fun hn => absurd hH hn)))
theorem CallOk.newO {k : FuncId} {vs : List AV} {r : AV} {e : TypeId} {sz : Nat} {α : Type} {li : List α} {enc : α → List Value} {z : α} (henc : ∀ y, (enc y).length = sz)
    (h : ∀ n w, HSat cx n s w → Calls P k (vs.map (AV.c n)).toArray w fun e' w' => ∃ v, e' = .returned (r.c (upd n s.nx v)) ∧ Below w.heap.size w w' ∧ w'.ownsRow w.heap.size e sz v li.length (flat li enc)) :
    CallOk P cx s k vs r (s.add (.sl .own e sz li enc z)) := fun n w hh => (h n w hh).mono fun e' w' ⟨v, h1, h2, h3⟩ => by
  have hb : ∀ g, vblk v = some g → w.heap.size ≤ g ∧ g < w'.heap.size := fun g hg => by
    rcases h3.2 with ⟨rfl, _⟩ | ⟨g', cap, cur, rfl, hb, hh, _⟩
    · cases hg
    · cases hg; exact ⟨hb, (Array.getElem?_eq_some_iff.1 hh).1⟩
  refine ⟨upd n s.nx v, upd_lt n s.nx v, h1, hh.add h2 ?_ ⟨henc, fun g hg => hh.fr.news g (Nat.le_trans hh.fr.size (hb g hg).1), h3.1, ?_⟩ trivial (fun g hg => (hb g hg).2) (fun g hg => .inl (hb g hg).1)⟩
  · rcases h3.2 with ⟨rfl, _⟩ | ⟨g', cap, cur, rfl, _⟩ <;> rfl
  · exact h3.2.imp (fun h => h) fun ⟨g, cap, cur, h1, _, h3⟩ => ⟨g, cap, cur, h1, Nat.zero_le _, h3⟩
theorem own_of {n0 n : Vn} {w0 w : World} {m : Nat} (h : HSat (cx0 w0 n0 m) n s w) {id : Nat} {e : TypeId} {sz : Nat} {α : Type} {li : List α} {enc : α → List Value} {z : α} (hf : fnd s.hp id = some (.sl .own e sz li enc z)) : w.ownsRow w0.heap.size e sz (n id) li.length (flat li enc) := by
  obtain ⟨_, h2, h3⟩ := h.ents _ (fnd_mem hf)
  refine ⟨h3.1, h3.2.imp (fun h => h) fun ⟨g, cap, cur, h1, _, h4⟩ => ⟨g, cap, cur, h1, ?_, h4⟩⟩
  exact h2 g (by simp only at h1; rw [h1]; rfl)
theorem own_nil (w0 w : World) (e : TypeId) (sz : Nat) {α : Type} (enc : α → List Value) : w.ownsRow w0.heap.size e sz (.slice none 0 0) ([] : List α).length (flat ([] : List α) enc) := ⟨by simp [flat], .inl ⟨rfl, rfl⟩⟩
end
end Go.Proofs.YthfnedbpmdkdjaaDoor.Eng
namespace Go.Proofs.YthfnedbpmdkdjaaDoor.Eng
open Go Go.RowKit
set_option linter.unusedVariables false
set_option linter.unusedSimpArgs false
inductive Bd (σ ρ : Type) where
  | go (s : σ)
  | brk (s : σ)
  | ret (r : ρ)
inductive Out (σ ρ : Type) where
  | brk (s : σ)
  | ret (r : ρ)
def loopR {σ ρ : Type} (c : Nat → σ → Bool) (b : Nat → σ → Bd σ ρ) : Nat → Nat → σ → Out σ ρ
  | 0, _, s => .brk s
  | f + 1, k, s => bif c k s then (match b k s with
    | .go s' => loopR c b f (k + 1) s'
    | .brk s' => .brk s'
    | .ret r => .ret r) else .brk s
section
variable {σ ρ : Type} {c : Nat → σ → Bool} {b : Nat → σ → Bd σ ρ} {N k : Nat} {s s' : σ} {r : ρ} {R : Out σ ρ}
theorem loopR_step (hk : k < N) (hc : c k s = true) : loopR c b (N - k) k s = (match b k s with
    | .go s' => loopR c b (N - (k + 1)) (k + 1) s'
    | .brk s' => .brk s'
    | .ret r => .ret r) := by
  obtain ⟨f, hf⟩ : ∃ f, N - k = f + 1 := ⟨N - k - 1, by omega⟩
  have hf' : N - (k + 1) = f := by omega
  rw [hf, hf']
  simp only [loopR, hc, cond_true]
theorem loopR_go (hi : loopR c b (N - k) k s = R) (hk : k < N) (hc : c k s = true) (hb : b k s = .go s') : loopR c b (N - (k + 1)) (k + 1) s' = R := by
  rw [← hi, loopR_step hk hc, hb]
theorem loopR_ret (hi : loopR c b (N - k) k s = R) (hk : k < N) (hc : c k s = true) (hb : b k s = .ret r) : R = .ret r := by
  rw [← hi, loopR_step hk hc, hb]
theorem loopR_end (hi : loopR c b (N - k) k s = R) (hc : c k s = false) : R = .brk s := by
  rw [← hi]
  cases N - k with
  | zero => rfl
  | succ f => simp only [loopR, hc, cond_false]
end
theorem reads_nil {w : World} {sz : Nat} {α : Type} {enc : α → List Value} {z : α} : Reads w (.slice none 0 0) sz ([] : List α) enc z := ⟨none, 0, rfl, Nat.le_refl _, Nat.zero_le _, fun h => absurd h (by simp)⟩
section
variable {P : Program} {tt : TT} {cx : Cx} {s s' : AS} {Q : Exit → AS → Prop}
def LA {σ ρ : Type} (cx : Cx) (id : Nat) (c : Nat → σ → Bool) (b : Nat → σ → Bd σ ρ) (N : Nat) (R : Out σ ρ) (cv : Nat → Int) (I : Int → σ → AS) (E : σ → AS) (pre : Nat → σ → Prop) (k : Nat) (Q : Exit → AS → Prop) : Exit → AS → Prop
  | .normal, s' => k < N ∧ ∃ ci v', ci = cv (k + 1) ∧ loopR c b (N - (k + 1)) (k + 1) v' = R ∧ pre (k + 1) v' ∧ Le cx s' (I ci v')
  | .exit i, s' => if i = id then ∃ v', R = .brk v' ∧ (∃ k', k' ≤ N ∧ pre k' v') ∧ Le cx s' (E v') else Q (.exit i) s'
  | e, s' => Q e s'
theorem WP_loopA {σ ρ : Type} {id : Nat} {body : Code} (c : Nat → σ → Bool) (b : Nat → σ → Bd σ ρ) (N : Nat) (v0 : σ) (cv : Nat → Int) (I : Int → σ → AS) (E : σ → AS) (pre : Nat → σ → Prop)
    (h0 : pre 0 v0) (hl : ∃ ci, ci = cv 0 ∧ Le cx s (I ci v0)) (hb : ∀ k v, k ≤ N → pre k v → loopR c b (N - k) k v = loopR c b N 0 v0 → ∀ Q', Q' = LA cx id c b N (loopR c b N 0 v0) cv I E pre k Q → (∀ s, ¬ Q' .outgrown s) → WP P cx (I (cv k) v) body Q')
    (hQ : ∀ v, loopR c b N 0 v0 = .brk v → (∃ k', k' ≤ N ∧ pre k' v) → ∀ s', Le cx s' (E v) → Q .normal s')
    (ho : ∀ s, ¬ Q .outgrown s := by first | exact fun _ h => h | assumption) : WP P cx s (.block id (.loop body)) Q := by
  obtain ⟨ci, hci, hl⟩ := hl
  refine WP_block (WP_loop (σ := Nat × Int × σ) (fun x => I x.2.1 x.2.2) (fun x => x.1 ≤ N ∧ x.2.1 = cv x.1 ∧ pre x.1 x.2.2 ∧ loopR c b (N - x.1) x.1 x.2.2 = loopR c b N 0 v0) (fun x => N - x.1) (0, ci, v0) ⟨Nat.zero_le _, hci, h0, rfl⟩ hl ?_)
  rintro ⟨k, ci, v⟩ ⟨hk, hci, hp, hR⟩
  simp only at hk hci hp hR
  subst hci
  refine (hb k v hk hp hR _ rfl (fun s h => ho s h)).mono fun e s' h => ?_
  cases e with
  | normal =>
    obtain ⟨hlt, ci, v', h1, h2, h3, h4⟩ := h
    exact ⟨(k + 1, ci, v'), ⟨hlt, h1, h3, h2⟩, by simp only; omega, h4⟩
  | exit i =>
    simp only [Nx, Blk]
    simp only [LA] at h
    split
    · rename_i hi; rw [if_pos hi] at h; obtain ⟨v', h1, h2, h3⟩ := h; exact hQ v' h1 h2 s' h3
    · rename_i hi; rw [if_neg hi] at h; exact h
  | _ => exact h
section
variable {Q' : Exit → AS → Prop} {σ ρ : Type} {id i : Nat} {c : Nat → σ → Bool} {b : Nat → σ → Bd σ ρ} {N : Nat} {R : Out σ ρ} {cv : Nat → Int} {I : Int → σ → AS} {E : σ → AS} {pre : Nat → σ → Prop} {k : Nat}
theorem LA_go (hQ : Q' = LA cx id c b N R cv I E pre k Q) {ci : Int} (v' : σ) (h1 : k < N) (h2 : ci = cv (k + 1)) (h3 : loopR c b (N - (k + 1)) (k + 1) v' = R) (h4 : pre (k + 1) v') (h5 : Le cx s' (I ci v')) : Q' .normal s' := hQ ▸ ⟨h1, ci, v', h2, h3, h4, h5⟩
theorem LA_exit (hQ : Q' = LA cx id c b N R cv I E pre k Q) (v' : σ) (h1 : R = .brk v') (h3 : ∃ k', k' ≤ N ∧ pre k' v') (h2 : Le cx s' (E v')) : Q' (.exit id) s' := by
  subst hQ
  simp only [LA, if_pos]
  exact ⟨v', h1, h3, h2⟩
theorem LA_ret (hQ : Q' = LA cx id c b N R cv I E pre k Q) (h : Q .ret s') : Q' .ret s' := hQ ▸ h
end
end
end Go.Proofs.YthfnedbpmdkdjaaDoor.Eng
namespace Go.Proofs.YthfnedbpmdkdjaaDoor.Eng
open Go Go.RowKit
set_option linter.unusedVariables false
set_option linter.unusedSimpArgs false
def eqTg : List (Nat × Bool) → List (Nat × Bool) → Bool
  | [], [] => true
  | x :: r, y :: q => Nat.beq x.1 y.1 && (x.2 == y.2) && eqTg r q
  | _, _ => false
theorem eqTg_eq : ∀ {a b : List (Nat × Bool)}, eqTg a b = true → a = b
  | [], [], _ => rfl
  | x :: r, y :: q, h => by
    simp only [eqTg, Bool.and_eq_true, beq_iff_eq] at h
    rw [eqTg_eq h.2]
    congr 1
    exact Prod.ext (Nat.eq_of_beq_eq_true h.1.1) h.1.2
def cndT (s : AS) : List (Nat × Bool) → Option Bool
  | [] => some true
  | (t, b) :: r => match look s.env t with
    | some (tg, .s (.bool g)) => bif eqTg tg r then (cndT s r).map (fun c => c && (g == b)) else none
    | _ => none
theorem cndT_spec {n : Vn} {s : AS} {a : Act} (henv : ∀ x ∈ s.env, EntOk n s a x) : ∀ {T : List (Nat × Bool)} {c : Bool}, cndT s T = some c → (Holds a T ↔ c = true)
  | [], c, h => by
    cases h
    exact ⟨fun _ => rfl, fun _ x hx => by cases hx⟩
  | (t, b) :: r, c, h => by
    simp only [cndT] at h
    split at h
    · rename_i tg g hl
      rcases hb : eqTg tg r with _ | _
      · rw [hb] at h; cases h
      · rw [hb] at h
        simp only [cond_true] at h
        obtain ⟨c', hc', rfl⟩ := Option.map_eq_some_iff.1 h
        have ih := cndT_spec henv hc'
        have htg := eqTg_eq hb
        subst htg
        have he := henv _ (look_mem hl)
        have hsplit : Holds a ((t, b) :: tg) ↔ (a.tmps.getD t undef = .bool b ∧ Holds a tg) := by
          constructor
          · exact fun h => ⟨h (t, b) List.mem_cons_self, fun x hx => h x (List.mem_cons_of_mem _ hx)⟩
          · rintro ⟨h1, h2⟩ x hx
            rcases List.mem_cons.1 hx with rfl | hx
            · exact h1
            · exact h2 x hx
        rw [hsplit, Bool.and_eq_true, beq_iff_eq, ← ih]
        constructor
        · rintro ⟨h1, h2⟩
          refine ⟨h2, ?_⟩
          have := (he.yes h2).1
          simp only [AV.c, AC.c] at this
          rw [h1] at this
          cases this; rfl
        · rintro ⟨h1, h2⟩
          refine ⟨?_, h1⟩
          have := (he.yes h1).1
          simp only [AV.c, AC.c] at this
          rw [this, h2]
    · cases h
section
variable {P : Program} {tt : TT} {cx : Cx} {s s' : AS} {Q : Exit → AS → Prop} {ops : Array Oper} {l : List Oper}
theorem CALLO (k : FuncId) (vs : List AV) (r : AV) (e : TypeId) (sz : Nat) {α : Type} (li : List α) (enc : α → List Value) (z : α) (nx : Nat) (hnx : s.nx = nx) (h : (callA ops s l).map (fun x => (x.1, x.2.1, x.2.2.2.2)) = some (k, vs, [])) (hgo : goes P k)
    (hp : (callPN ops s l (s.add (.sl .own e sz li enc z)) r).isSome = true) (hr : okB (s.add (.sl .own e sz li enc z)) r = true) (henc : ∀ y, (enc y).length = sz)
    (hcall : ∀ n w, HSat cx n s w → Calls P k (vs.map (AV.c n)).toArray w fun e' w' => ∃ v, e' = .returned (r.c (upd n nx v)) ∧ Below w.heap.size w w' ∧ w'.ownsRow w.heap.size e sz v li.length (flat li enc))
    (hK : WPO P cx ops l.tail ((callPN ops s l (s.add (.sl .own e sz li enc z)) r).getD s) Q) : WPO P cx ops l s Q := by
  subst hnx
  obtain ⟨⟨k', vs', G', d, T⟩, hr', he'⟩ := Option.map_eq_some_iff.1 h
  simp only [Prod.mk.injEq] at he'
  obtain ⟨rfl, rfl, rfl⟩ := he'
  exact CALLN k' vs' _ r (by rw [hr']; rfl) hgo hp hr (More.add _ _) ⟨rfl, rfl, rfl⟩ (CallOk.newO henc hcall) hK
theorem CALLR (k : FuncId) (vs : List AV) (r : AV) (e : TypeId) (sz : Nat) {α : Type} (li : List α) (enc : α → List Value) (z : α) (nx : Nat) (hnx : s.nx = nx) (h : (callA ops s l).map (fun x => (x.1, x.2.1, x.2.2.2.2)) = some (k, vs, [])) (hgo : goes P k)
    (hp : (callPN ops s l (s.add (.sl .ro e sz li enc z)) r).isSome = true) (hr : okB (s.add (.sl .ro e sz li enc z)) r = true) (hsz : 0 < sz) (henc : ∀ y, (enc y).length = sz)
    (hcall : ∀ n w, HSat cx n s w → Calls P k (vs.map (AV.c n)).toArray w fun e' w' => ∃ v, e' = .returned (r.c (upd n nx v)) ∧ Below w.heap.size w w' ∧ Reads w' v sz li enc z ∧ (∀ g, vblk v = some g → 0 < li.length → w.heap.size ≤ g))
    (hK : WPO P cx ops l.tail ((callPN ops s l (s.add (.sl .ro e sz li enc z)) r).getD s) Q) : WPO P cx ops l s Q := by
  subst hnx
  obtain ⟨⟨k', vs', G', d, T⟩, hr', he'⟩ := Option.map_eq_some_iff.1 h
  simp only [Prod.mk.injEq] at he'
  obtain ⟨rfl, rfl, rfl⟩ := he'
  exact CALLN k' vs' _ r (by rw [hr']; rfl) hgo hp hr (More.add _ _) ⟨rfl, rfl, rfl⟩ (CallOk.newR hsz henc hcall) hK
end
end Go.Proofs.YthfnedbpmdkdjaaDoor.Eng
namespace Go.Proofs.YthfnedbpmdkdjaaDoor.Eng
set_option linter.unusedVariables false
set_option linter.unusedSimpArgs false
section
variable {σ ρ : Type} {c : Nat → σ → Bool} {b : Nat → σ → Bd σ ρ} {N : Nat}
theorem loopR_foldl (st : Nat → σ → σ) (hc : ∀ k v, k < N → c k v = true) (hb : ∀ k v, k < N → b k v = .go (st k v)) (v0 : σ) : loopR c b N 0 v0 = .brk ((List.range N).foldl (fun v k => st k v) v0) := by
  have key : ∀ (m k : Nat) (v : σ), k + m = N → loopR c b (N - k) k v = .brk ((List.range' k m).foldl (fun v k => st k v) v) := by
    intro m
    induction m with
    | zero => intro k v h; rw [show N - k = 0 by omega]; rfl
    | succ m ih =>
      intro k v h
      rw [loopR_step (by omega) (hc k v (by omega)), hb k v (by omega)]
      simp only [List.range'_succ, List.foldl_cons]
      exact ih (k + 1) _ (by omega)
  have := key N 0 v0 (by omega)
  rwa [← List.range_eq_range'] at this
theorem loopR_app {α : Type} {b : Nat → List α → Bd (List α) ρ} {c : Nat → List α → Bool} (g : Nat → List α) (hc : ∀ k v, k < N → c k v = true) (hb : ∀ k v, k < N → b k v = .go (v ++ g k)) (v0 : List α) : loopR c b N 0 v0 = .brk (v0 ++ (List.range N).flatMap g) := by
  rw [loopR_foldl (fun k v => v ++ g k) hc hb]
  congr 1
  generalize List.range N = l
  induction l generalizing v0 with
  | nil => simp
  | cons x r ih => simp only [List.foldl_cons, List.flatMap_cons]; rw [ih, List.append_assoc]
theorem loopR_and {b : Nat → Bool → Bd Bool ρ} {c : Nat → Bool → Bool} (p : Nat → Bool) (hc : ∀ k v, k < N → c k v = true) (hb : ∀ k v, k < N → b k v = .go (v && p k)) (v0 : Bool) : loopR c b N 0 v0 = .brk (v0 && (List.range N).all p) := by
  rw [loopR_foldl (fun k v => v && p k) hc hb]
  congr 1
  generalize List.range N = l
  induction l generalizing v0 with
  | nil => simp
  | cons x r ih => simp only [List.foldl_cons, List.all_cons]; rw [ih, Bool.and_assoc]
end
end Go.Proofs.YthfnedbpmdkdjaaDoor.Eng
namespace Go.Proofs.YthfnedbpmdkdjaaDoor.Eng
open Go Go.RowKit
set_option linter.unusedVariables false
set_option linter.unusedSimpArgs false
section
variable {P : Program} {ops : Array Oper} {md : Region.Mode} {C : World → Prop}
def waitsM (md : Region.Mode) (ops : Array Oper) (m : Nat) : Bool := (List.range' m (ops.size - m)).all fun j => match ops[j]? with
  | some o => (List.range m).all fun i => o.after.any fun e => Region.binds md e && Nat.beq e.on i
  | none => true
theorem waits_lt {m : Nat} (hw : waitsM md ops m = true) {listed : Array Bool} {i j : Nat} (hi : listed.getD i true = false) (him : i < m) (hj : j ∈ Region.ready md ops listed) : j < m := by
  rcases Nat.lt_or_ge j m with h | h
  · exact h
  · exfalso
    obtain ⟨_, o, ho, hall⟩ := mem_ready.1 hj
    have hjs : j < ops.size := (Array.getElem?_eq_some_iff.1 ho).1
    have h1 := List.all_eq_true.1 hw j (List.mem_range'.2 ⟨j - m, by omega, by omega⟩)
    rw [ho] at h1
    simp only at h1
    have h2 := List.all_eq_true.1 h1 i (List.mem_range.2 him)
    obtain ⟨e, he, hb⟩ := Array.any_eq_true'.1 h2
    simp only [Bool.and_eq_true] at hb
    have h3 := hall e he hb.1
    rw [Nat.eq_of_beq_eq_true hb.2] at h3
    rcases Nat.lt_or_ge i listed.size with h' | h'
    · simp [h'] at hi h3; rw [hi] at h3; cases h3
    · simp [Array.getElem?_eq_none h'] at h3
end
section
variable {P : Program} {tt : TT} {cx : Cx} {s s' : AS} {Q : Exit → AS → Prop} {ops : Array Oper}
def MQ (P : Program) (cx : Cx) (ops : Array Oper) (drop : List Nat) (f2 : Nat) (L : Array Bool) (Q : Exit → AS → Prop) : Exit → AS → Prop
  | .normal, s' => uniq s'.hp = true ∧ WPH P cx ops (s'.kept drop) f2 L s' Q
  | _, _ => False
end
end Go.Proofs.YthfnedbpmdkdjaaDoor.Eng
namespace Go.Proofs.YthfnedbpmdkdjaaDoor.Eng
open Go Go.RowKit
set_option linter.unusedVariables false
set_option linter.unusedSimpArgs false
section
variable {P : Program} {ops : Array Oper} {md : Region.Mode}
def downM (ops : Array Oper) (m : Nat) : Bool := (List.range m).all fun i => match ops[i]? with
  | some o => (o.after.all fun e => Nat.ble (e.on + 1) i) && (match o.guard with | some (j, _) => Nat.ble (j + 1) m | none => true)
  | none => false
structure RelM (ops : Array Oper) (m : Nat) (li l1 : Array Bool) : Prop where
  size : l1.size = m
  size2 : li.size = ops.size
  same : ∀ i, i < m → li[i]? = l1[i]?
  rest : ∀ i, m ≤ i → i < ops.size → li[i]? = some false
theorem RelM.set {m i : Nat} {li l1 : Array Bool} (h : RelM ops m li l1) (hi : i < m) (hm : m ≤ ops.size) : RelM ops m (li.setIfInBounds i true) (l1.setIfInBounds i true) := by
  refine ⟨by simp [h.size], by simp [h.size2], fun j hj => ?_, fun j h1 h2 => ?_⟩
  · by_cases hij : i = j
    · subst hij
      rw [Array.getElem?_setIfInBounds_self_of_lt (by rw [h.size2]; omega), Array.getElem?_setIfInBounds_self_of_lt (by rw [h.size]; omega)]
    · rw [Array.getElem?_setIfInBounds_ne hij, Array.getElem?_setIfInBounds_ne hij]; exact h.same j hj
  · rw [Array.getElem?_setIfInBounds_ne (by omega)]; exact h.rest j h1 h2
theorem getD_q {li : Array Bool} {i : Nat} {d : Bool} : li.getD i d = (li[i]?).getD d := by
  simp
theorem extract_get {m i : Nat} (hi : i < m) (hm : m ≤ ops.size) : (ops.extract 0 m)[i]? = ops[i]? := by
  rw [Array.getElem?_extract]
  rw [if_pos (by omega)]; simp
theorem ready_down {m : Nat} (hm : m ≤ ops.size) (hd : downM ops m = true) {li l1 : Array Bool} (h : RelM ops m li l1) (hw : waitsM md ops m = true) (hu : ∃ i, i < m ∧ li.getD i true = false) : ∀ j, j ∈ Region.ready md ops li → j < m ∧ j ∈ Region.ready md (ops.extract 0 m) l1 := fun j hj => by
  obtain ⟨i, hi, hun⟩ := hu
  have hjm := waits_lt hw hun hi hj
  refine ⟨hjm, ?_⟩
  rw [mem_ready] at hj ⊢
  obtain ⟨h1, o, ho, hall⟩ := hj
  refine ⟨by rw [getD_q, ← h.same j hjm, ← getD_q]; exact h1, o, by rw [extract_get hjm hm]; exact ho, fun e he hb => ?_⟩
  have h2 := List.all_eq_true.1 hd j (List.mem_range.2 hjm)
  rw [ho] at h2
  simp only [Bool.and_eq_true] at h2
  have h3 := Nat.le_of_ble_eq_true (Array.all_eq_true'.1 h2.1 e he)
  have h4 := hall e he hb
  rw [getD_q, ← h.same e.on (by omega), ← getD_q]
  exact h4
theorem ready_some {m : Nat} (hm : m ≤ ops.size) (hd : downM ops m = true) {li : Array Bool} : ∀ (i : Nat), i < m → li.getD i true = false → Region.ready md ops li ≠ [] := by
  intro i
  induction i using Nat.strongRecOn with
  | _ i ih =>
    intro hi hun
    have h2 := List.all_eq_true.1 hd i (List.mem_range.2 hi)
    obtain ⟨o, ho⟩ : ∃ o, ops[i]? = some o := ⟨ops[i], Array.getElem?_eq_getElem (by omega)⟩
    rw [ho] at h2
    simp only [Bool.and_eq_true] at h2
    by_cases hall : ∀ e ∈ o.after, Region.binds md e = true → li.getD e.on false = true
    · intro h0
      have : i ∈ Region.ready md ops li := mem_ready.2 ⟨hun, o, ho, hall⟩
      rw [h0] at this; cases this
    · simp only [Classical.not_forall] at hall
      obtain ⟨e, he, hb, hne⟩ := hall
      have h3 := Nat.le_of_ble_eq_true (Array.all_eq_true'.1 h2.1 e he)
      refine ih e.on (by omega) (by omega) ?_
      rcases Nat.lt_or_ge e.on li.size with hlt | hge
      · rw [getD_q, Array.getElem?_eq_getElem hlt] at hne ⊢
        simpa using hne
      · exfalso
        rw [getD_q, Array.getElem?_eq_none (by omega)] at hun
        cases hun
theorem wanted_ext {m : Nat} {o : Oper} {tmps : Array Value} (hm : m ≤ ops.size) (hg : (match o.guard with | some (j, _) => Nat.ble (j + 1) m | none => true) = true) : Region.wanted o (yielded (ops.extract 0 m) tmps) = Region.wanted o (yielded ops tmps) := by
  unfold Region.wanted
  cases hgu : o.guard with
  | none => rfl
  | some p =>
    obtain ⟨j, b⟩ := p
    rw [hgu] at hg
    have hj := Nat.le_of_ble_eq_true hg
    simp only
    have : yielded (ops.extract 0 m) tmps j = yielded ops tmps j := by
      unfold yielded
      rw [extract_get (by omega) hm]
    rw [this]
theorem wpAny_of_HM {m f2 : Nat} {S : World → Prop} {Q1 Q' : Exit → Act → World → Prop} (hm : m ≤ ops.size) (hd : downM ops m = true) (hw : waitsM md ops m = true) (hq : ∀ c a w, ¬ Q1 (.panic c) a w) (hl : ¬ LetsOut Q1)
    (hK : ∀ li a w, RelM ops m li (Array.replicate m true) → Q1 .normal a w → wpAny P md ops Q' f2 li a w) : ∀ (fuel : Nat) (li l1 : Array Bool) (a : Act) (w : World), RelM ops m li l1 → ((List.range m).countP fun i => !l1.getD i true) = fuel → wpAnyH P md (ops.extract 0 m) Q1 S fuel l1 a w → wpAny P md ops Q' (f2 + fuel) li a w
  | 0, li, l1, a, w, hr, hc, h => by
    refine hK _ _ _ ?_ h.2
    have h0 := List.countP_eq_zero.1 hc
    have e : l1 = Array.replicate m true := by
      apply Array.ext
      · simp [hr.size]
      · intro i h1 h2
        have := h0 i (List.mem_range.2 (by rw [← hr.size]; exact h1))
        rw [getD_q, Array.getElem?_eq_getElem h1] at this
        simpa using this
    rw [← e]; exact hr
  | fuel + 1, li, l1, a, w, hr, hc, h => by
    obtain ⟨i, hi, hiu⟩ : ∃ i, i < m ∧ l1.getD i true = false := by
      obtain ⟨i, hi, hp⟩ := List.countP_pos_iff.1 (show 0 < (List.range m).countP fun i => !l1.getD i true by omega)
      exact ⟨i, List.mem_range.1 hi, by simpa using hp⟩
    have hiu' : li.getD i true = false := by rw [getD_q, hr.same i hi, ← getD_q]; exact hiu
    refine ⟨fun h0 => absurd h0 (ready_some hm hd i hi hiu'), fun j hj => ?_⟩
    obtain ⟨hjm, hj1⟩ := ready_down hm hd hr hw ⟨i, hi, hiu'⟩ j hj
    have hju := (mem_ready.1 hj1).1
    have h1 := h.2 j hj1
    have hc' : ((List.range m).countP fun i => !(l1.setIfInBounds j true).getD i true) = fuel := by
      have key : ∀ (n : Nat), n ≤ m → ((List.range n).countP fun i => !l1.getD i true) = ((List.range n).countP fun i => !(l1.setIfInBounds j true).getD i true) + (if j < n then 1 else 0) := by
        intro n
        induction n with
        | zero => intro _; simp
        | succ n ih =>
          intro hn
          rw [List.range_succ, List.countP_append, List.countP_append, ih (by omega)]
          simp only [List.countP_singleton]
          by_cases hjn : j = n
          · subst hjn
            have e1 : (l1.setIfInBounds j true).getD j true = true := by
              rw [getD_q, Array.getElem?_setIfInBounds_self_of_lt (by rw [hr.size]; omega)]; rfl
            rw [hju, e1]; simp
          · rw [getD_set_ne true hjn]
            by_cases h3 : j < n
            · rw [if_pos h3, if_pos (show j < n + 1 by omega)]; omega
            · rw [if_neg h3, if_neg (show ¬ j < n + 1 by omega)]; omega
      have := key m (Nat.le_refl _)
      rw [if_pos hjm] at this
      omega
    have hk : ∀ a' w', (S w' ∧ wpAnyH P md (ops.extract 0 m) Q1 S fuel (l1.setIfInBounds j true) a' w') → wpAny P md ops Q' (f2 + fuel) (li.setIfInBounds j true) a' w' := fun a' w' h => wpAny_of_HM hm hd hw hq hl hK fuel _ _ a' w' (hr.set hjm hm) hc' h.2
    unfold wpOp at h1 ⊢
    rw [extract_get hjm hm] at h1
    split
    · rename_i ho; rw [ho] at h1; exact hk _ _ h1
    · rename_i o ho
      rw [ho] at h1
      simp only at h1
      have h2 := List.all_eq_true.1 hd j (List.mem_range.2 hjm)
      rw [ho] at h2
      simp only [Bool.and_eq_true] at h2
      rw [wanted_ext hm h2.2] at h1
      split
      · rename_i hwa
        rw [if_pos hwa] at h1
        rcases h1 with h1 | h1
        · exact .inl (wp_mono2 hk hq hl h1)
        · exact absurd h1.2 hl
      · rename_i hwa
        rw [if_neg hwa] at h1
        exact hk _ _ h1
end
section
variable {P : Program} {tt : TT} {cx : Cx} {s s' : AS} {Q : Exit → AS → Prop} {ops : Array Oper}
def trueM (m n : Nat) : Array Bool := Array.replicate m true ++ Array.replicate n false
theorem WP_drawHM {id : Nat} (m : Nat) (drop1 drop : List Nat) (hm : P.follows .mixedOrders = true) (hc : (waitsM .any ops m && downM ops m && Nat.ble m ops.size && uniq s.hp) = true)
    (h : WPH P cx (ops.extract 0 m) (s.kept drop1) m (Array.replicate m false) s (MQ P cx ops drop (ops.size - m) (trueM m (ops.size - m)) Q)) (hd : noDefer ops = true := by kernel_rfl) : WP P cx s (.region id ops true) Q := fun r mm ht n a w hs => by
  simp only [Bool.and_eq_true] at hc
  obtain ⟨⟨⟨h1, h2⟩, h3⟩, h4⟩ := hc
  have h3 := Nat.le_of_ble_eq_true h3
  have hat := (hs.heap.at).same (w' := { w with drawn := w.drawn + 1 }) rfl rfl rfl rfl
  have hfz : Fz (s.kept drop1) s := Fz.kept (s := s) drop1 h4
  have hW := h hfz n hs.heap.ini hs.heap.inx hs.heap.one n a _ ⟨hat, hs.size, hs.env, hs.defers⟩ (hat.kept drop1 hfz)
  have key : wpAny P .any ops (PN cx Q) (ops.size - m + m) (Array.replicate ops.size false) a { w with drawn := w.drawn + 1 } := by
    refine wpAny_of_HM (Q1 := PN cx (MQ P cx ops drop (ops.size - m) (trueM m (ops.size - m)) Q)) h3 h2 h1 (fun c a w ⟨h, _⟩ => by cases h) (fun h => by obtain ⟨_, _, h, _⟩ := h; cases h) (fun li a' w' hr hq => ?_) m _ (Array.replicate m false) a _ ⟨by simp, by simp, fun i hi => by rw [Array.getElem?_replicate, Array.getElem?_replicate, if_pos (by omega), if_pos hi], fun i hi hi2 => by rw [Array.getElem?_replicate, if_pos hi2]⟩ ?_ hW
    · obtain ⟨_, n', s', ⟨hu, hW2⟩, hs'⟩ := hq
      have hfz2 := Fz.kept (s := s') drop hu
      have hat2 := hs'.heap.at
      have e : li = trueM m (ops.size - m) := by
        apply Array.ext
        · simp [trueM, hr.size2]; omega
        · intro i hi1 hi2
          rw [hr.size2] at hi1
          have e1 : li[i]? = (trueM m (ops.size - m))[i]? := by
            by_cases him : i < m
            · rw [hr.same i him]
              simp [trueM, him, Array.getElem?_append]
            · rw [hr.rest i (by omega) hi1]
              unfold trueM
              rw [Array.getElem?_append_right (by simp; omega)]
              rw [Array.getElem?_replicate, if_pos (by simp; omega)]
          rw [Array.getElem?_eq_getElem (by rw [hr.size2]; exact hi1), Array.getElem?_eq_getElem hi2] at e1
          simpa using e1
      rw [e]
      exact wpAny_of_held _ _ _ _ (hW2 hfz2 n' hs'.heap.ini hs'.heap.inx hs'.heap.one n' a' w' ⟨hat2, hs'.size, hs'.env, hs'.defers⟩ (hat2.kept drop hfz2))
    · have : ∀ k, k ≤ m → ((List.range k).countP fun i => !(Array.replicate m false).getD i true) = k := by
        intro k
        induction k with
        | zero => intro _; rfl
        | succ k ih =>
          intro hk
          rw [List.range_succ, List.countP_append, ih (by omega)]
          simp only [List.countP_singleton]
          rw [getD_q, Array.getElem?_replicate, if_pos (show k < m by omega)]; rfl
      exact this m (Nat.le_refl _)
  rw [show ops.size - m + m = ops.size by omega] at key
  exact wpIn_mono (wpIn_region_any hm (wpAny_in hd (fun h => by obtain ⟨_, _, h, _⟩ := h; cases h) _ _ _ _ key)) fun e a w h => h.2
end
end Go.Proofs.YthfnedbpmdkdjaaDoor.Eng
namespace Go.Proofs.YthfnedbpmdkdjaaDoor.Eng
open Go Go.RowKit
set_option linter.unusedVariables false
set_option linter.unusedSimpArgs false
theorem More.trans {s1 s2 s3 : AS} (h : More s1 s2) (k : More s2 s3) : More s1 s3 := ⟨Nat.le_trans h.nx k.nx, fun id hid e he => by
  obtain ⟨e0, h0, hl0⟩ := k.fnd id (Nat.lt_of_lt_of_le hid h.nx) e he
  obtain ⟨e1, h1, hl1⟩ := h.fnd id hid e0 h0
  exact ⟨e1, h1, Nat.le_trans hl1 hl0⟩⟩
section
variable {P : Program} {tt : TT} {cx : Cx} {s s' : AS} {Q : Exit → AS → Prop} {ops : Array Oper} {l : List Oper}
end
end Go.Proofs.YthfnedbpmdkdjaaDoor.Eng
namespace Go.Proofs.YthfnedbpmdkdjaaDoor.Eng
open Go Go.RowKit
set_option linter.unusedVariables false
set_option linter.unusedSimpArgs false
section
variable {P : Program} {tt : TT} {cx : Cx} {s s0 s' : AS} {Q : Exit → AS → Prop} {ops : Array Oper} {l : List Oper}
def JX {σ : Type} (cx : Cx) (S : σ → AS) (Q : Exit → AS → Prop) : Exit → AS → Prop
  | .normal, s => ∃ x, Le cx s (S x)
  | e, s => Q e s
theorem WP_toX {σ : Type} {c : Code} (S : σ → AS) (h : WP P cx s c (JX cx S Q)) (hK : ∀ x, Q .normal (S x)) : WP P cx s c Q := fun r m ht n a w hs =>
  wpIn_mono (h r m ht n a w hs) fun e a w ⟨n', s', hq, hs'⟩ => by
    cases e with
    | normal =>
      obtain ⟨x, hl⟩ := hq
      obtain ⟨n2, hs2⟩ := hl n' a w hs'
      exact ⟨n2, S x, hK x, hs2⟩
    | _ => exact ⟨n', s', hq, hs'⟩
theorem H_two (i j : Nat) {fuel : Nat} {listed : Array Bool} (hr : Region.ready .any ops listed = [i, j]) (hi : (opAt ops i).isEmpty = false) (hj : (opAt ops j).isEmpty = false)
    (h1 : Fz s0 s → ∀ cx' : Cx, cx'.w0 = cx.w0 → (cx'.ok = cx.ok ∧ (∀ id, id < cx.m0 → cx'.n0 id = cx.n0 id) ∧ cx.m0 ≤ cx'.m0) → WPO P cx' ops (opAt ops i) s (fun e s' => e = .normal ∧ Fz s0 s' ∧ WPH P cx ops s0 fuel (listed.setIfInBounds i true) s' Q))
    (h2 : Fz s0 s → ∀ cx' : Cx, cx'.w0 = cx.w0 → (cx'.ok = cx.ok ∧ (∀ id, id < cx.m0 → cx'.n0 id = cx.n0 id) ∧ cx.m0 ≤ cx'.m0) → WPO P cx' ops (opAt ops j) s (fun e s' => e = .normal ∧ Fz s0 s' ∧ WPH P cx ops s0 fuel (listed.setIfInBounds j true) s' Q)) : WPH P cx ops s0 (fuel + 1) listed s Q := fun hfz n0 h3 h4 one n a w hst hS => by
  refine wpAnyH_all hr (by simp) fun k hk => ?_
  have key : ∀ i, (opAt ops i).isEmpty = false → (Fz s0 s → ∀ cx' : Cx, cx'.w0 = cx.w0 → (cx'.ok = cx.ok ∧ (∀ id, id < cx.m0 → cx'.n0 id = cx.n0 id) ∧ cx.m0 ≤ cx'.m0) → WPO P cx' ops (opAt ops i) s (fun e s' => e = .normal ∧ Fz s0 s' ∧ WPH P cx ops s0 fuel (listed.setIfInBounds i true) s' Q)) →
      wpOp P ops (PN cx Q) i (fun a' w' => HSat (cxAt cx n0 s0.nx) n0 s0 w' ∧ wpAnyH P .any ops (PN cx Q) (HSat (cxAt cx n0 s0.nx) n0 s0) fuel (listed.setIfInBounds i true) a' w') a w := fun i hi h => by
    obtain ⟨o, ho⟩ : ∃ o, ops[i]? = some o := by
      unfold opAt at hi
      cases ho : ops[i]? with
      | none => rw [ho] at hi; cases hi
      | some o => exact ⟨o, rfl⟩
    have hl1 : opAt ops i = [o] := by unfold opAt; rw [ho]; rfl
    have := h hfz (cxAt cx n0 s0.nx) rfl ⟨rfl, h3, h4⟩ n a w hst
    rw [hl1] at this
    unfold wpOp
    rw [ho]
    simp only
    have hk : ∀ a w, Post (cxAt cx n0 s0.nx) (fun e s' => e = .normal ∧ Fz s0 s' ∧ WPH P cx ops s0 fuel (listed.setIfInBounds i true) s' Q) .normal a w →
        (HSat (cxAt cx n0 s0.nx) n0 s0 w ∧ wpAnyH P .any ops (PN cx Q) (HSat (cxAt cx n0 s0.nx) n0 s0) fuel (listed.setIfInBounds i true) a w) := fun a w ⟨n', s', ⟨_, hfz, hw⟩, hs'⟩ => by
      have hS' := hs'.heap.less hfz hS
      exact ⟨hS', hw hfz n0 h3 h4 one n' a w hs' hS'⟩
    have hq : ∀ c a w, ¬ Post (cxAt cx n0 s0.nx) (fun e s' => e = .normal ∧ Fz s0 s' ∧ WPH P cx ops s0 fuel (listed.setIfInBounds i true) s' Q) (.panic c) a w := fun c a w ⟨_, _, h, _⟩ => by cases h.1
    have hl : ¬ LetsOut (Post (cxAt cx n0 s0.nx) (fun e s' => e = .normal ∧ Fz s0 s' ∧ WPH P cx ops s0 fuel (listed.setIfInBounds i true) s' Q)) := fun h => by
      obtain ⟨_, _, _, _, h, _⟩ := h
      cases h.1
    unfold wpList at this
    split
    · rename_i hw
      rw [if_pos hw] at this
      rcases this with h | h
      · exact .inl (wp_mono2 (fun a w h => hk a w h) hq hl h)
      · exact absurd h.2 hl
    · rename_i hw
      rw [if_neg hw] at this
      exact hk _ _ this
  rcases List.mem_cons.1 hk with rfl | hk
  · exact key _ hi h1
  · rw [List.mem_singleton.1 hk]; exact key _ hj h2
end
end Go.Proofs.YthfnedbpmdkdjaaDoor.Eng
namespace Go.Proofs.YthfnedbpmdkdjaaDoor.Eng
open Go Go.RowKit
set_option linter.unusedVariables false
set_option linter.unusedSimpArgs false
section
variable {P : Program} {tt : TT} {cx : Cx} {s s' : AS} {Q : Exit → AS → Prop} {ops : Array Oper} {l : List Oper}
theorem CALLSL (k : FuncId) (vs : List AV) (r : Value → AV) (sz : Nat) {α : Type} (li : List α) (enc : α → List Value) (z : α) (hsz : 0 < sz) (h : (callA ops s l).map (fun x => (x.1, x.2.1, x.2.2.2.2)) = some (k, vs, [])) (hgo : goes P k)
    (hp : ∀ v, (callPN ops s l (s.add (slE v sz li enc z)) (r v)).isSome = true) (hr : ∀ v, okB (s.add (slE v sz li enc z)) (r v) = true) (hrc : ∀ v n n', (r v).c n = (r v).c n')
    (hcall : ∀ n w, HSat cx n s w → Calls P k (vs.map (AV.c n)).toArray w fun e' w' => ∃ v, e' = .returned ((r v).c n) ∧ Below w.heap.size w w' ∧ Reads w' v sz li enc z ∧ (∀ g, vblk v = some g → w.heap.size ≤ g ∧ g < w'.heap.size))
    (hK : ∀ v, WPO P cx ops l.tail ((callPN ops s l (s.add (slE v sz li enc z)) (r v)).getD s) Q) : WPO P cx ops l s Q := by
  refine CALLX (σ := Value) k vs (fun v => s.add (slE v sz li enc z)) r h hgo hp hr (fun g => More.add s _) (fun g => ⟨rfl, rfl, rfl⟩) (fun n w hh => (hcall n w hh).mono fun e' w' ⟨v, h2, h3, h4, h5⟩ => ⟨v, upd n s.nx .nilFunc, upd_lt n s.nx _, by rw [h2, hrc v n], ?_⟩) hK
  exact hh.add h3 rfl ⟨h4, fun g' hg' => hh.fr.news g' (Nat.le_trans hh.fr.size (h5 g' hg').1), fun w1 w2 h hw => h.stab hw⟩ trivial (fun g' hg' => (h5 g' hg').2) (fun g' hg' => .inl (h5 g' hg').1)
theorem slE_lt {n0 n : Vn} {w0 w : World} {m : Nat} (h : HSat (cx0 w0 n0 m) n s w) {id : Nat} {v : Value} {sz : Nat} {α : Type} {li : List α} {enc : α → List Value} {z : α} (hf : fnd s.hp id = some (slE v sz li enc z)) : Reads w v sz li enc z ∧ ∀ g, vblk v = some g → w0.heap.size ≤ g ∧ g < w.heap.size :=
  ⟨(h.ents _ (fnd_mem hf)).1, fun g hg => ⟨(h.ents _ (fnd_mem hf)).2.1 g hg, h.lt _ (fnd_mem hf) g hg⟩⟩
end
end Go.Proofs.YthfnedbpmdkdjaaDoor.Eng
namespace Go.Proofs.YthfnedbpmdkdjaaDoor.Eng
open Go Go.RowKit
set_option linter.unusedVariables false
set_option linter.unusedSimpArgs false
def ldoA (ops : Array Oper) (s : AS) : List Oper → Option (TypeId × Nat × Nat × Option Tmp)
  | o :: _ => match o.op, o.guard with
    | .load t x, none => match ev s [] x with
      | some (.s (.v (.pointer (some ⟨g, off, none⟩)))) => some (t, g, off, o.dst)
      | _ => none
    | _, _ => none
  | [] => none
section
variable {P : Program} {tt : TT} {cx : Cx} {s s0 s' : AS} {Q : Exit → AS → Prop} {ops : Array Oper} {l : List Oper}
theorem ldo_sound (hT : TTok P tt) {t g off : Nat} {d : Option Tmp} {cs : List AC} {ty : TypeId} {v : AV} (h : ldoA ops s l = some (t, g, off, d)) (hv : ((tyL tt t).bind fun i => sub cs off i.size i.d.ag) = some v) : ∃ (o : Oper) (rest : List Oper), l = o :: rest ∧ o.guard = none ∧ d = o.dst ∧
    ∀ (n : Vn) (a : Act) (w : World) (s1 : AS), s1.env = s.env → (∀ x ∈ s1.env, EntOk n s1 a x) → w.heap[g]? = some (.cells (cellsV n cs) ty (0, 0)) → (execOp a.eval o).run P w = .ok (.value (v.c n)) w := by
  cases l with
  | nil => cases h
  | cons o rest =>
    simp only [ldoA] at h
    split at h <;> try (cases h; done)
    rename_i t' x ho hg
    split at h <;> try (cases h; done)
    rename_i g' off' hx
    cases h
    obtain ⟨i, hi, hsub⟩ := Option.bind_eq_some_iff.1 hv
    obtain ⟨F⟩ := hT.get hi
    refine ⟨o, rest, rfl, hg, rfl, fun n a w s1 he henv hheap => ?_⟩
    have hH : Holds a [] := fun x hx => by cases hx
    have hx1 : ev s1 [] x = some (.s (.v (.pointer (some ⟨g, off, none⟩)))) := by
      have : ∀ (y : Operand), ev s1 [] y = ev s [] y := fun y => by cases y <;> simp only [ev, he]
      rw [this]; exact hx
    obtain ⟨e1, _⟩ := ev_sound henv hH hx1
    simp only [AV.c, AC.c] at e1
    have hl := loadVar_sound (w := w) (n := n) F ⟨g, off, none⟩ cs off v hsub fun j c hc _ => by
      rw [add_pl, cell_of_row w g _ _ _ _ hheap]
      simp [cellsV, hc]
    unfold execOp
    rw [ho]
    simp only [e1, Sem.run_bind, Instr.loadAt, Instr.sureAddr, Sem.run_pure, Result.andThen_ok, hl]
theorem LDGo (hT : TTok P tt) (t g off : Nat) (d : Option Tmp) (cs : List AC) (ty : TypeId) (v : AV) (h : ldoA ops s l = some (t, g, off, d)) (hv : ((tyL tt t).bind fun i => sub cs off i.size i.d.ag) = some v) (hok : okB s v = true)
    (hw : ∀ n w, HSat cx n s w → w.heap[g]? = some (.cells (cellsV n cs) ty (0, 0))) (hp : (s.put d [] v).isSome = true) (hK : WPO P cx ops l.tail ((s.put d [] v).getD s) Q) : WPO P cx ops l s Q := fun n a w hs => by
  obtain ⟨o, rest, rfl, hg, rfl, hrun⟩ := ldo_sound (ty := ty) hT h hv
  obtain ⟨s', hs'⟩ := Option.isSome_iff_exists.1 hp
  rw [hs'] at hK
  have hH : Holds a [] := fun x hx => by cases hx
  exact wp_value (wanted_none (ops := ops) hg) (hrun n a w s rfl hs.env (hw n w hs.heap)) (hK _ _ _ (put_sat hs hs' (fun _ => ⟨rfl, okB_sound hok⟩) (fun hn => absurd hH hn)))
theorem H_LDG (hT : TTok P tt) (i : Nat) (t g off : Nat) (d : Option Tmp) (cs : List AC) (ty : TypeId) (v : AV) {fuel : Nat} {listed : Array Bool} (h : ldoA ops s (opAt ops i) = some (t, g, off, d)) (hv : ((tyL tt t).bind fun i => sub cs off i.size i.d.ag) = some v) (hok : okB ⟨0, [], [], 0, []⟩ v = true)
    (hw : ∀ cx n w, HSat cx n { s with hp := s0.hp } w → w.heap[g]? = some (.cells (cellsV n cs) ty (0, 0))) (hp : (s.put d [] v).isSome = true) (hs : Region.noSelect ops = true) (hb : takB ops listed i = true)
    (hK : WPH P cx ops s0 fuel (listed.setIfInBounds i true) ((s.put d [] v).getD s) Q) : WPH P cx ops s0 (fuel + 1) listed s Q := by
  obtain ⟨o, rest, hl, hg, rfl, hrun⟩ := ldo_sound (ty := ty) hT h hv
  obtain ⟨s', hs'⟩ := Option.isSome_iff_exists.1 hp
  rw [hs'] at hK
  have hb' := hb
  simp only [takB, Bool.and_eq_true] at hb'
  have hgt : gTag s ops o = some [] := by unfold gTag; rw [hg]
  have hok' : ∀ s1 : AS, v.ok s1 := fun s1 => okB_sound (okB_nx (Nat.zero_le _) hok)
  exact H_takeq (T := []) (r := v) i (opAt_cons hl) hgt hs' (fun _ cx n a w hh henv _ => ⟨hrun n a w { s with hp := s0.hp } rfl henv (hw cx n w hh), hok' _⟩) (fun _ => hok' _) hs hb'.1 hb'.2 hK
theorem CALLTK (k : FuncId) (vs : List AV) (r : Value → AV) (a : Nat) (e : TypeId) (sz0 : Nat) {α0 : Type} (l0 : List α0) (enc0 : α0 → List Value) (z0 : α0) (sz : Nat) {α : Type} (li : List α) (enc : α → List Value) (z : α) (hf : fnd s.hp a = some (.sl .own e sz0 l0 enc0 z0)) (h : (callA ops s l).map (fun x => (x.1, x.2.1, x.2.2.2.2)) = some (k, vs, [])) (hgo : goes P k)
    (hp : ∀ v, (callPN ops s l (AS.add { s with hp := rem s.hp a } (slE v sz li enc z)) (r v)).isSome = true) (hr : ∀ v, okB (AS.add { s with hp := rem s.hp a } (slE v sz li enc z)) (r v) = true) (hrc : ∀ v n n', (r v).c n = (r v).c n')
    (hcall : ∀ n w, HSat cx n s w → Calls P k (vs.map (AV.c n)).toArray w fun e' w' => ∃ v, e' = .returned ((r v).c n) ∧ Below w.heap.size w w' ∧ Reads w' v sz li enc z ∧ (∀ g, vblk v = some g → vblk (n a) = some g ∨ (w.heap.size ≤ g ∧ g < w'.heap.size)))
    (hK : ∀ v, WPO P cx ops l.tail ((callPN ops s l (AS.add { s with hp := rem s.hp a } (slE v sz li enc z)) (r v)).getD s) Q) : WPO P cx ops l s Q := by
  refine CALLX (σ := Value) k vs (fun v => AS.add { s with hp := rem s.hp a } (slE v sz li enc z)) r h hgo hp hr (fun g => More.trans (rem_more s a) (More.add _ _)) (fun g => ⟨rfl, rfl, rfl⟩) (fun n w hh => (hcall n w hh).mono fun e' w' ⟨v, h2, h3, h4, h5⟩ => ⟨v, upd n s.nx .nilFunc, upd_lt n s.nx _, by rw [h2, hrc v n], ?_⟩) hK
  have he0 := hh.ents _ (fnd_mem hf)
  have hlt0 := hh.lt _ (fnd_mem hf)
  have hdis : ∀ x ∈ rem s.hp a, ∀ g, x.2.foot (n x.1) g → vblk (n a) ≠ some g := fun x hx g hg hv => by
    have hsym : ∀ (x y : Nat × HE), ((x.2.mut = true ∨ y.2.mut = true) → ∀ g, x.2.foot (n x.1) g → ¬ y.2.foot (n y.1) g) → ((y.2.mut = true ∨ x.2.mut = true) → ∀ g, y.2.foot (n y.1) g → ¬ x.2.foot (n x.1) g) :=
      fun x y h hm g h1 h2 => h hm.symm g h2 h1
    exact pw_mem hsym hh.sep ((rem_sub s.hp a).subset hx) (fnd_mem hf) (fun e => rem_ne hx (by rw [e])) (.inr rfl) g hg hv
  exact (hh.rem a).add h3 rfl ⟨h4, fun g' hg' => (h5 g' hg').elim (fun hq => he0.2.1 g' hq) (fun hq => hh.fr.news g' (Nat.le_trans hh.fr.size hq.1)), fun w1 w2 h hw => h.stab hw⟩ trivial
    (fun g' hg' => (h5 g' hg').elim (fun hq => Nat.lt_of_lt_of_le (hlt0 g' hq) h3.size) (fun hq => hq.2)) (fun g' hg' => (h5 g' hg').elim (fun hq => .inr fun x hx _ hxg => hdis x hx g' hxg hq) (fun hq => .inl hq.1))
end
end Go.Proofs.YthfnedbpmdkdjaaDoor.Eng
namespace Go.Proofs.YthfnedbpmdkdjaaDoor.Eng
open Go Go.RowKit
set_option linter.unusedVariables false
set_option linter.unusedSimpArgs false
def slenA (tt : TT) (ops : Array Oper) (s : AS) : List Oper → Option (AV × List (Bool × Bool) × Option Tmp × List (Nat × Bool))
  | o :: _ => match o.op, gTag s ops o with
    | .call c, some T => match c.callee, c.args.toList, c.argTypes.toList with
      | .builtin .len, [x], [t] => match tyL tt t, ev s T x with
        | some ⟨_, _, _, .slice _⟩, some v => some (v, tagL s T, o.dst, T)
        | _, _ => none
      | _, _, _ => none
    | _, _ => none
  | [] => none
def slenP (tt : TT) (ops : Array Oper) (s : AS) (l : List Oper) (N : Nat) : Option AS :=
  match slenA tt ops s l with
  | some (_, _, d, T) => s.put d T (.s (.int .i64 (N : Int)))
  | none => none
def slvA (tt : TT) (s : AS) (e : TypeId) (sz : Nat) (len : Nat) : List Oper → Option (AV × Int × Int × Option Int × Option Tmp)
  | o :: _ => match o.op, o.guard with
    | .slice t x lo hi mx, none => match ev s [] x with
      | some v => bif isSlK tt t e && isSz tt e sz && (mx.isNone || hi.isSome) then
            match bnd s 0 lo, bnd s len hi, (match mx with | none => some none | some m => (bnd s 0 (some m)).map some : Option (Option Int)) with
            | some i, some j, some m => some (v, i, j, m, o.dst)
            | _, _, _ => none
          else none
      | _ => none
    | _, _ => none
  | [] => none
section
variable {P : Program} {tt : TT} {cx : Cx} {s s' : AS} {Q : Exit → AS → Prop} {ops : Array Oper} {l : List Oper}
theorem slen_sound (hT : TTok P tt) {v : AV} {G : List (Bool × Bool)} {d : Option Tmp} {T : List (Nat × Bool)} (h : slenA tt ops s l = some (v, G, d, T)) (N : Nat) : ∃ (o : Oper) (rest : List Oper), l = o :: rest ∧ gTag s ops o = some T ∧ d = o.dst ∧ G = tagL s T ∧
    ∀ (cx : Cx) n a w, HSat cx n s w → (∀ x ∈ s.env, EntOk n s a x) → Holds a T → (∃ A c, v.c n = .slice A N c) →
      (execOp a.eval o).run P w = .ok (.value (.int .i64 (N : Int))) w := by
  cases l with
  | nil => cases h
  | cons o rest =>
    simp only [slenA] at h
    split at h <;> try (cases h; done)
    rename_i c T' ho hg
    split at h <;> try (cases h; done)
    rename_i x t hc hargs htys
    split at h <;> try (cases h; done)
    rename_i z1 b1 zv k v' ht hx
    simp only [Option.some.injEq, Prod.mk.injEq] at h
    obtain ⟨rfl, rfl, rfl, rfl⟩ := h
    refine ⟨o, rest, rfl, hg, rfl, rfl, fun cx n a w hh henv hH hm => ?_⟩
    obtain ⟨A, cp, hv⟩ := hm
    obtain ⟨F⟩ := hT.get ht
    have hd : F.desc = .slice k := by
      have := F.td
      cases hd : F.desc <;> rw [hd] at this <;> simp only [tdOf] at this <;> first
        | (cases this; done)
        | (injection this with h1; rw [h1])
    obtain ⟨e1, _⟩ := ev_sound henv hH hx
    have ha : c.args = #[x] := by apply Array.ext'; simpa using hargs
    have hty : c.argTypes = #[t] := by apply Array.ext'; simpa using htys
    unfold execOp
    rw [ho]
    simp only [resolve, hc, ha, hty, Sem.run_bind, Sem.run_pure, Result.andThen_ok, invoke]
    simp [builtin, Builtin.len_, e1, hv, run_underlying F.hdesc, hd, goInt]
theorem SLEN (hT : TTok P tt) (v : AV) (G : List (Bool × Bool)) (N : Nat) (h : (slenA tt ops s l).map (fun z => (z.1, z.2.1)) = some (v, G)) (hm : AllEq G → ∀ n w, HSat cx n s w → ∃ A c, v.c n = .slice A N c)
    (hp : (slenP tt ops s l N).isSome = true) (hK : WPO P cx ops l.tail ((slenP tt ops s l N).getD s) Q) : WPO P cx ops l s Q := by
  obtain ⟨⟨v', G', d, T⟩, hr, he⟩ := Option.map_eq_some_iff.1 h
  simp only [Prod.mk.injEq] at he
  obtain ⟨rfl, rfl⟩ := he
  obtain ⟨o, rest, rfl, hg, rfl, rfl, hrun⟩ := slen_sound (P := P) hT hr N
  obtain ⟨s', hs'⟩ := Option.isSome_iff_exists.1 hp
  rw [hs'] at hK
  simp only [slenP, hr] at hs'
  exact WPO_val hg hs' (fun hp n a w hh henv hH => ⟨hrun cx n a w hh henv hH (hm (tagP_all hp) n w hh), trivial⟩) hK
theorem SLVF (hT : TTok P tt) (id : Nat) (v0 : Value) (e : TypeId) (sz : Nat) {α : Type} (li : List α) (enc : α → List Value) (z : α) (d : Option Tmp) (h : slvA tt s e sz li.length l = some (.s (.v v0), 0, (li.length : Int), some (li.length : Int), d)) (hf : fnd s.hp id = some (slE v0 sz li enc z))
    (hp : ∀ v, (AS.put (AS.add { s with hp := rem s.hp id } (slE v sz li enc z)) d [] (.s (.v v))).isSome = true)
    (hK : ∀ v, WPO P cx ops l.tail ((AS.put (AS.add { s with hp := rem s.hp id } (slE v sz li enc z)) d [] (.s (.v v))).getD s) Q) : WPO P cx ops l s Q := by
  cases l with
  | nil => cases h
  | cons o rest =>
    simp only [slvA] at h
    split at h <;> try (cases h; done)
    rename_i t x lo hi mx' ho hg
    split at h <;> try (cases h; done)
    rename_i v' hx
    rcases hb : (isSlK tt t e && isSz tt e sz && (mx'.isNone || hi.isSome)) with _ | _
    · rw [hb] at h; cases h
    · rw [hb] at h
      simp only [Bool.and_eq_true] at hb
      simp only [cond_true] at h
      split at h <;> try (cases h; done)
      rename_i i' j' m' hlo hhi hmx
      simp only [Option.some.injEq, Prod.mk.injEq] at h
      obtain ⟨rfl, rfl, rfl, rfl, rfl⟩ := h
      intro n a w hs
      have hw : Region.wanted o (yielded ops a.tmps) = true := by simp [Region.wanted, hg]
      have hH : Holds a [] := fun x hx => by cases hx
      obtain ⟨tti, htt, htd⟩ := Option.map_eq_some_iff.1 (isSlK_spec hb.1.1)
      obtain ⟨ei, hee, hes⟩ := Option.map_eq_some_iff.1 (isSz_spec hb.1.2)
      obtain ⟨F⟩ := hT.get htt
      obtain ⟨G⟩ := hT.get hee
      have hd : F.desc = .slice e := by
        have := F.td
        rw [htd] at this
        cases hd : F.desc <;> rw [hd] at this <;> simp only [tdOf] at this <;> first
          | (cases this; done)
          | (injection this with h; rw [h])
      have he0 := hs.heap.ents _ (fnd_mem hf)
      have hr : Reads w v0 sz li enc z := he0.1
      obtain ⟨A, c, hv, hlc, hcm, hA⟩ := he0.1
      obtain ⟨ex, _⟩ := ev_sound hs.env hH hx
      simp only [AV.c, AC.c] at ex
      have hbnd : ∀ (dv : Int) (q : Option Operand) (r : Int), bnd s dv q = some r → bv dv (q.map a.eval) r := fun dv q r hq => by
        cases q with
        | none => simp only [bnd] at hq; cases hq; rfl
        | some q =>
          simp only [bnd] at hq
          split at hq
          · rename_i r' hr'
            cases hq
            obtain ⟨e1, _⟩ := ev_sound hs.env hH hr'
            exact e1
          · cases hq
      have hmv : bv (c : Int) (mx'.map a.eval) (li.length : Int) := by
        cases mx' with
        | none => cases hmx
        | some q =>
          obtain ⟨m, hm, hm2⟩ := Option.map_eq_some_iff.1 hmx
          cases hm2
          exact hbnd 0 (some q) _ hm
      have hrun : (execOp a.eval o).run P w = .ok (.value (.slice (if ((li.length : Nat) : Int).toNat = (0 : Int).toNat then A else A.map (·.add ((0 : Int).toNat * sz))) (((li.length : Nat) : Int).toNat - (0 : Int).toNat) (((li.length : Nat) : Int).toNat - (0 : Int).toNat))) w := by
        unfold execOp
        rw [ho]
        have hbs := run_bounds (P := P) (w := w) (len := li.length) (cap := c) (lo := lo.map a.eval) (hi := hi.map a.eval) (mx := mx'.map a.eval) (i := 0) (j := (li.length : Int)) (m := (li.length : Int)) (hbnd 0 lo 0 hlo) (hbnd _ hi _ hhi) hmv (by simpa using hb.2) ⟨by omega, by omega, by omega, by omega⟩
        simp only [Instr.sliceAt, ex, hv, Sem.run_bind, run_underlying F.hdesc, hd, Result.andThen_ok, Instr.slice, hbs, run_sizeOf' G, hes, Sem.run_pure]
      have hcr := cut_reads (w := w) (A := A) (c := c) (m := (li.length : Int)) (i := 0) (j := (li.length : Int)) (by rw [← hv]; exact hr) ⟨by omega, by omega, by omega⟩ ⟨by omega, by omega⟩
      have hcut : cut li 0 (li.length : Int) = li := by simp [cut]
      rw [hcut] at hcr
      have hblk : ∀ g, vblk (Value.slice (if ((li.length : Nat) : Int).toNat = (0 : Int).toNat then A else A.map (·.add ((0 : Int).toNat * sz))) (((li.length : Nat) : Int).toNat - (0 : Int).toNat) (((li.length : Nat) : Int).toNat - (0 : Int).toNat)) = some g → vblk v0 = some g := by
        rw [hv]
        intro g hg
        cases A with
        | none => split at hg <;> cases hg
        | some ad =>
          split at hg
          · exact hg
          · simpa [vblk, add_block] using hg
      generalize Value.slice (if ((li.length : Nat) : Int).toNat = (0 : Int).toNat then A else A.map (·.add ((0 : Int).toNat * sz))) (((li.length : Nat) : Int).toNat - (0 : Int).toNat) (((li.length : Nat) : Int).toNat - (0 : Int).toNat) = V at hrun hcr hblk
      have hdis : ∀ x ∈ rem s.hp id, ∀ g, x.2.foot (n x.1) g → vblk v0 ≠ some g := fun x hx g hg hv => by
        have hsym : ∀ (x y : Nat × HE), ((x.2.mut = true ∨ y.2.mut = true) → ∀ g, x.2.foot (n x.1) g → ¬ y.2.foot (n y.1) g) → ((y.2.mut = true ∨ x.2.mut = true) → ∀ g, y.2.foot (n y.1) g → ¬ x.2.foot (n x.1) g) :=
          fun x y h hm g h1 h2 => h hm.symm g h2 h1
        exact pw_mem hsym hs.heap.sep ((rem_sub s.hp id).subset hx) (fnd_mem hf) (fun e => rem_ne hx (by rw [e])) (.inr rfl) g hg hv
      have hs0 : Sat cx n { s with hp := rem s.hp id } a w := env_hp hs (rem_more s id) (hs.heap.rem id)
      have hs1 : Sat cx (upd n s.nx .nilFunc) (AS.add { s with hp := rem s.hp id } (slE V sz li enc z)) a w :=
        env_add hs0 (upd_lt n s.nx _) (hs0.heap.add (Below.refl _ _) rfl ⟨hcr, fun g hg => he0.2.1 g (hblk g hg), fun w1 w2 h hw => h.stab hw⟩ trivial (fun g hg => hs.heap.lt _ (fnd_mem hf) g (hblk g hg)) (fun g hg => .inr fun x hx _ hxg => hdis x hx g hxg (hblk g hg)))
      obtain ⟨s', hs'⟩ := Option.isSome_iff_exists.1 (hp V)
      have hK' := hK V
      rw [hs'] at hK'
      exact wp_value hw hrun (hK' _ _ _ (put_sat hs1 hs' (fun _ => ⟨rfl, trivial⟩) (fun hn => absurd hH hn)))
end
end Go.Proofs.YthfnedbpmdkdjaaDoor.Eng
namespace Go.Proofs.YthfnedbpmdkdjaaDoor.Eng
open Go Go.RowKit Go.ChangeShapes Go.WideShapes
set_option linter.unusedVariables false
set_option linter.unusedSimpArgs false
def Wb {H : Type} (P : Program) (t : TypeId) (d : DataW H) : Prop := ∀ n ∈ d.weights P t, n ≤ reachBytes
def Opn (P : Program) (w : World) (t : TypeId) (φ : List Value → Prop) : Prop :=
  ∀ (H : Type) (enc : TypeId × Value → H) (sp : Nat → Bool) (held : Bool) (fuel : Nat) (cs : List Value) (x : DataW H × List MemPlace), DataW.trod enc P w 0 sp held fuel t cs = some x → Wb P t x.1 → φ cs
section
variable {P : Program} {w : World} {t e : TypeId}
theorem Opn.mono {φ ψ : List Value → Prop} (h : Opn P w t φ) (k : ∀ cs, φ cs → ψ cs) : Opn P w t ψ := fun H enc sp held fuel cs x h1 h2 => k cs (h H enc sp held fuel cs x h1 h2)
theorem mapM_get {α β : Type _} {f : α → Option β} : ∀ {l : List α} {r : List β}, l.mapM f = some r → ∀ (i : Nat) (a : α), l[i]? = some a → ∃ b, f a = some b ∧ r[i]? = some b
  | [], r, h, i, a, hi => by cases hi
  | x :: l, r, h, i, a, hi => by
    rw [List.mapM_cons] at h
    obtain ⟨b, hb, h⟩ := Option.bind_eq_some_iff.1 h
    obtain ⟨r', hr, h⟩ := Option.bind_eq_some_iff.1 h
    cases h
    cases i with
    | zero => cases hi; exact ⟨b, hb, rfl⟩
    | succ i => exact mapM_get hr i a hi
theorem tl (o n : Nat) (cs : List Value) : cs.drop o = (cs.drop o).take n ++ cs.drop (o + n) := by rw [← List.drop_drop, List.take_append_drop]
theorem trodAll_stays {H : Type} {enc : TypeId × Value → H} (hl : laidOutB P = true) {W W' : World} {sp' : Nat → Bool} : ∀ {ts : List TypeId} {vs : List Value} {ds : List (DataW H)} {ps : List MemPlace}, (∀ u ∈ ts, P.readableRec u = true ∧ u < P.types.size) →
    DataW.TrodAll enc P W 0 (fun _ => true) true ts vs ds ps → (∀ p ∈ ps, W.sameAt W' p) → (∀ p ∈ ps, sp' p.block = true) → DataW.TrodAll enc P W' 0 sp' true ts vs ds ps
  | [], vs, ds, ps, _, h, _, _ => by obtain ⟨rfl, rfl, rfl⟩ := trodAll_nil h; exact rfl
  | u :: ts, vs, ds, ps, hr, h, h1, h2 => by
    obtain ⟨v, vs', d, ds', p, q, rfl, rfl, rfl, ha, hb⟩ := trodAll_cons h
    have hu := hr u List.mem_cons_self
    exact ⟨p, q, WideElems.Trod_stays hl hu.1 hu.2 ha (fun x hx => h1 x (List.mem_append.2 (.inl hx))) (fun x hx => h2 x (List.mem_append.2 (.inl hx))),
      trodAll_stays hl (fun x hx => hr x (List.mem_cons_of_mem _ hx)) hb (fun x hx => h1 x (List.mem_append.2 (.inr hx))) (fun x hx => h2 x (List.mem_append.2 (.inr hx))), rfl⟩
theorem law_post {H : Type} {enc : TypeId × Value → H} {f : Func} {s : ChangeSpec} {W W' : World} {args : Array Value} {ds gs : List (DataW H)} {before : List MemPlace} {tb : TypeId} (hl : laidOutB P = true) (hts : ∀ u ∈ f.params.toList, P.readableRec u = true ∧ u < P.types.size)
    (hW : DataW.Whole enc P f.params.toList s.vars false W args.toList ds gs before) (hv : s.vars = []) (hr : f.resultTypes = #[tb]) (htb : P.underlying tb = some .bool)
    (hs1 : (s.fn H (ds ++ gs)).results = [.lit (.bool true)]) (hs2 : (s.fn H (ds ++ gs)).args = ds) (hs3 : (s.fn H (ds ++ gs)).vars = []) (hb : Below W.heap.size W W') :
    s.post enc P f false true false false W args (.bool true) W' := by
  have hlt : ∀ p ∈ before, p.block < W.heap.size := hW.lt
  have hW2 := hW
  obtain ⟨pa, pv, h1, h2, rfl, hz, hn⟩ := hW
  have hpv : pv = [] := by rw [hv] at h2; exact (trodVars_none h2).2
  subst hpv
  have hres : ∀ (b : Nat) (sp : Nat → Bool) (hd : Bool), DataW.TrodAll enc P W' b sp hd f.resultTypes.toList ((Value.bool true).resultList f.resultTypes.size) (s.fn H (ds ++ gs)).results [] := fun b sp hd => by
    rw [hr, hs1]
    exact trodAll_cons_mk (shut_bool htb true) trodAll_mk0
  have hargs : ∀ sp : Nat → Bool, (∀ p ∈ pa ++ [], sp p.block = true) → DataW.TrodAll enc P W' 0 sp true f.params.toList args.toList (s.fn H (ds ++ gs)).args pa := fun sp hsp => by
    rw [hs2]
    exact trodAll_stays hl hts h1 (fun p hp => hb.same (hlt p (by simpa using hp))) (fun p hp => hsp p (by simpa using hp))
  have hvars : ∀ sp : Nat → Bool, DataW.TrodVars enc P W' sp s.vars (s.fn H (ds ++ gs)).vars [] := fun sp => by
    rw [hv, hs3]; exact rfl
  have hold : ∀ p ∈ pa ++ [], (fun b => decide (b < W.heap.size)) p.block = true := fun p hp => by simpa using hlt p hp
  refine ⟨ds, gs, _, [], pa, [], hW2, hres _ _ _, hargs _ hold, hvars _, World.keptBut_mono (fun p hp => hp) (hb.frame _), fun _ => ?_⟩
  refine ⟨ok_one hr rfl (okWide_bool_mk htb true), _, _, ([] ++ pa) ++ [], ⟨[] ++ pa, [], trodAll_append (hargs _ (fun _ _ => rfl)) (hres _ _ _), hvars _, rfl, ?_, ?_⟩, ?_⟩
  · intro b off hp
    have hp' : MemPlace.cell b off ∈ pa ++ [] := by simpa using hp
    have := hlt _ hp'
    rw [hb.frozen (p := ⟨b, off, none⟩) this]
    exact hz b off hp'
  · intro ha; cases ha
  · intro p hp _
    simpa using hp
end
end Go.Proofs.YthfnedbpmdkdjaaDoor.Eng
namespace Go.Proofs.YthfnedbpmdkdjaaDoor.Eng
open Go Go.RowKit
set_option linter.unusedVariables false
set_option linter.unusedSimpArgs false
structure RO where (e sz : Nat) (α : Type) (li : List α) (enc : α → List Value) (z : α)
def RO.he (x : RO) : HE := .sl .ro x.e x.sz x.li x.enc x.z
section
variable {P : Program} {tt : TT} {cx : Cx} {s s' : AS} {Q : Exit → AS → Prop} {ops : Array Oper} {l : List Oper}
theorem reads_lt {w : World} {v : Value} {sz : Nat} {α : Type} {li : List α} {enc : α → List Value} {z : α} (h : Reads w v sz li enc z) (hp : 0 < li.length) (hs : 0 < sz) : ∀ g, vblk v = some g → g < w.heap.size := fun g hg => by
  obtain ⟨A, c, rfl, _, _, hr⟩ := h
  obtain ⟨ad, rfl, hc⟩ := hr hp
  have := hc 0 hp 0 hs
  cases hg
  have h2 := World.block_lt_of_cell? w _ this
  simpa [add_block] using h2
end
end Go.Proofs.YthfnedbpmdkdjaaDoor.Eng
namespace Go.Proofs.YthfnedbpmdkdjaaDoor.Eng
open Go Go.RowKit
set_option linter.unusedVariables false
set_option linter.unusedSimpArgs false
theorem Reads.stab0 {w1 w2 : World} {v : Value} {sz : Nat} {α : Type} {li : List α} {enc : α → List Value} {z : α} (h : Reads w1 v sz li enc z) (hw : ∀ g, vblk v = some g ∧ 0 < li.length → w2.heap[g]? = w1.heap[g]?) : Reads w2 v sz li enc z := by
  by_cases hp : 0 < li.length
  · exact h.stab fun g hg => hw g ⟨hg, hp⟩
  · obtain ⟨A, c, rfl, h2, h3, _⟩ := h
    exact ⟨A, c, rfl, h2, h3, fun h => absurd h hp⟩
section
variable {P : Program} {tt : TT} {cx : Cx} {s s' : AS} {Q : Exit → AS → Prop} {ops : Array Oper} {l : List Oper}
end
end Go.Proofs.YthfnedbpmdkdjaaDoor.Eng
namespace Go.Proofs.YthfnedbpmdkdjaaDoor.Eng
open Go Go.RowKit
set_option linter.unusedVariables false
set_option linter.unusedSimpArgs false
theorem weak_fresh {p : Value → Prop} {w w' : World} {sz : Nat} {α : Type} {li : List α} {enc : α → List Value} {z : α} (h : ∃ v, p v ∧ Below w.heap.size w w' ∧ Reads w' v sz li enc z ∧ (∀ g, vblk v = some g → w.heap.size ≤ g ∧ g < w'.heap.size)) :
    ∃ v, p v ∧ Below w.heap.size w w' ∧ Reads w' v sz li enc z ∧ (∀ g, vblk v = some g → 0 < li.length → w.heap.size ≤ g) := by
  obtain ⟨v, h1, h2, h3, h4⟩ := h
  exact ⟨v, h1, h2, h3, fun g hg _ => (h4 g hg).1⟩
def litGA (tt : TT) (ops : Array Oper) (s : AS) : List Oper → Option (TypeId × Nat × List AC × Option Tmp × List (Nat × Bool))
  | o :: _ => match o.op, gTag s ops o with
    | .buildSlice t m ps, some T => match tyL tt t with
      | some ⟨_, _, _, .slice e⟩ => match tyL tt e, evs s T ps.toList with
        | some i, some vs => bif Nat.ble 1 i.size && Nat.beq (avOf i.zero).cells.length i.size && Nat.ble (m * i.size) 16777216 then (fillA (fun j => some (j * i.size, i.size)) (zrep m (avOf i.zero).cells) vs).map fun cs => (e, m, cs, o.dst, T) else none
        | _, _ => none
      | _ => none
    | _, _ => none
  | [] => none
def litGP (tt : TT) (ops : Array Oper) (s : AS) (l : List Oper) (s1 : AS) : Option AS :=
  match litGA tt ops s l with
  | some (_, _, _, d, T) => s1.put d T (.s (.ref s.nx))
  | none => none
section
variable {P : Program} {tt : TT} {cx : Cx} {s s' : AS} {Q : Exit → AS → Prop} {ops : Array Oper} {l : List Oper}
theorem LITG (hT : TTok P tt) (T : List (Nat × Bool)) (c : Bool) (e : TypeId) (m sz : Nat) (cs : List AC) {α : Type} (li : List α) (enc : α → List Value) (z : α)
    (h : (litGA tt ops s l).map (fun x => (x.1, x.2.1, x.2.2.1, x.2.2.2.2)) = some (e, m, cs, T)) (hc : cndT s T = some c) (hm : m = li.length) (henc : ∀ y, (enc y).length = sz) (hcs : ∀ n, cs.map (AC.c n) = flat li enc)
    (hp : (litGP tt ops s l (s.add (.sl .own e sz (bif c then li else []) enc z))).isSome = true)
    (hK : WPO P cx ops l.tail ((litGP tt ops s l (s.add (.sl .own e sz (bif c then li else []) enc z))).getD s) Q) : WPO P cx ops l s Q := by
  obtain ⟨⟨e', m', cs', d, T'⟩, ha, he'⟩ := Option.map_eq_some_iff.1 h
  simp only [Prod.mk.injEq] at he'
  obtain ⟨rfl, rfl, rfl, rfl⟩ := he'
  obtain ⟨s', hs'⟩ := Option.isSome_iff_exists.1 hp
  rw [hs'] at hK
  simp only [litGP, ha] at hs'
  cases l with
  | nil => cases ha
  | cons o rest =>
    simp only [litGA] at ha
    split at ha <;> try (cases ha; done)
    rename_i t m2 ps T2 ho hg
    split at ha <;> try (cases ha; done)
    rename_i z1 b1 zv1 e2' ht
    split at ha <;> try (cases ha; done)
    rename_i i vs hi hvs
    rcases hb : (Nat.ble 1 i.size && Nat.beq (avOf i.zero).cells.length i.size && Nat.ble (m2 * i.size) 16777216) with _ | _
    · rw [hb] at ha; cases ha
    · rw [hb] at ha
      simp only [Bool.and_eq_true] at hb
      obtain ⟨cs2, hcs2, he⟩ := Option.map_eq_some_iff.1 ha
      simp only [Prod.mk.injEq] at he
      obtain ⟨rfl, rfl, rfl, rfl, rfl⟩ := he
      have hb1 := Nat.le_of_ble_eq_true hb.1.1
      have hb2 := Nat.eq_of_beq_eq_true hb.1.2
      have hb3 := Nat.le_of_ble_eq_true hb.2
      intro n a w hs
      have hgt := gTag_sound hs hg
      have hcc := cndT_spec hs.env hc
      by_cases hH : Holds a T2
      · have hct := hcc.1 hH
        subst hct
        obtain ⟨F⟩ := hT.get ht
        obtain ⟨G⟩ := hT.get hi
        have hd : F.desc = .slice e2' := by
          have := F.td
          cases hd : F.desc <;> rw [hd] at this <;> simp only [tdOf] at this <;> first
            | (cases this; done)
            | (injection this with h; rw [h])
        obtain ⟨e1, e2, e3⟩ := evs_sound hs.env hH hvs
        have hzok : cellsOk s (avOf i.zero).cells := cells_ok (avOf_ok s _)
        have hok : cellsOk s cs2 := fill_ok (zrep_ok hzok m2) (fun x hx => cells_ok (e3 x hx)) hcs2
        have hm : m2 ≤ 16777216 := Nat.le_trans (Nat.le_mul_of_pos_right _ hb1) hb3
        have hrun : (execOp a.eval o).run P w = .ok (.value (.slice (some ⟨w.heap.size, 0, none⟩) m2 m2)) (w.alloc (.cells (cellsV n cs2) e2')) := by
          unfold execOp
          rw [ho]
          have hps : (ps.map fun x => (x.1, a.eval x.2)) = (vs.map fun x => (x.1, x.2.c n)).toArray := by
            apply Array.ext'
            simpa using e1
          have hf := fill_sound (n := n) hs.heap.one e2 hcs2
          have hzc : (i.zero).cells = ((avOf i.zero).cells.map (AC.c n)).toArray := zero_cells n
          rw [zrep_c (by omega), hb2] at hf
          have hnz : ¬ m2 * i.size > 2 ^ 24 := by simp; omega
          simp only [hps, Instr.buildSlice, Sem.run_bind, run_underlying F.hdesc, hd, Result.andThen_ok, run_sizeOf' G]
          rw [if_neg hnz]
          by_cases h0 : m2 * i.size = 0
          · rw [if_pos h0]
            simp only [Sem.run_pure, Result.andThen_ok, Sem.run_bind]
            rw [h0] at hf ⊢
            have hr : ∀ f : Nat → Value, (Array.range 0).map f = #[] := fun f => Array.ext' (by simp)
            simp only [hr] at hf ⊢
            simp only [hf, newRow, Sem.run_bind, run_newObj, Result.andThen_ok, Sem.run_pure, World.alloc_eq]
          · rw [if_neg h0]
            simp only [Sem.run_bind, run_zero' G, Result.andThen_ok, Sem.run_pure]
            rw [hzc]
            simp only [hf, newRow, Sem.run_bind, run_newObj, Result.andThen_ok, Sem.run_pure, World.alloc_eq]
        have hlen : (flat li enc).length = li.length * sz := flat_len henc li
        have hst : Sat cx (upd n s.nx (.slice (some ⟨w.heap.size, 0, none⟩) m2 m2)) (s.add (.sl .own e2' sz li enc z)) a (w.alloc (.cells (cellsV n cs2) e2')) := by
          refine env_add hs (upd_lt _ _ _) (hs.heap.add ((Below.refl _ _).alloc (Nat.le_refl _) _) rfl ⟨henc, fun g hg => ?_, hlen, .inr ⟨w.heap.size, li.length, cellsV n cs2, by rw [‹m2 = li.length›], Nat.zero_le _, by rw [heap_alloc_new], Nat.le_refl _, by rw [← ‹m2 = li.length›]; simp only [maxLen]; omega, ?_, ?_⟩⟩ trivial (fun g hg => ?_) (fun g hg => ?_))
          · simp only [vblk] at hg; cases hg; exact hs.heap.fr.news _ hs.heap.fr.size
          · simp only [cellsV, List.size_toArray, List.length_map]
            have := congrArg List.length (hcs n)
            rw [List.length_map, hlen] at this
            exact this
          · simp only [cellsV]
            rw [hcs n, List.take_of_length_le (by rw [hlen]; exact Nat.le_refl _)]
          · simp only [HE.foot, vblk] at hg; cases hg; simp
          · simp only [HE.foot, vblk] at hg; cases hg; exact .inl (Nat.le_refl _)
        exact wp_value (hgt.2 hH) hrun (hK _ _ _ (put_sat hst hs' (fun _ => ⟨by simp only [AV.c, AC.c, upd_same], Nat.lt_succ_self _⟩) (fun hn => absurd hH hn)))
      · have hcf : c = false := by cases c; rfl; exact absurd (hcc.2 rfl) hH
        subst hcf
        have hh : HSat cx (upd n s.nx (.slice none 0 0)) (s.add (.sl .own e2' sz ([] : List α) enc z)) w :=
          hs.heap.add (Below.refl _ _) rfl ⟨henc, fun g hg => (by cases hg), by rw [show flat ([] : List α) enc = [] from rfl]; exact ⟨by simp, .inl ⟨rfl, by simp⟩⟩⟩ trivial (fun g hg => (by cases hg)) (fun g hg => (by cases hg))
        have hst := env_add hs (upd_lt n s.nx _) hh
        exact wp_pass (fun hw => hH (hgt.1 hw)) (hK _ _ _ (put_sat hst hs' (fun hH' => absurd hH' hH) (fun _ => rfl)))
end
end Go.Proofs.YthfnedbpmdkdjaaDoor.Eng
namespace Go.Proofs.YthfnedbpmdkdjaaDoor.Eng
open Go Go.RowKit
set_option linter.unusedVariables false
set_option linter.unusedSimpArgs false
section
variable {P : Program} {tt : TT} {cx : Cx} {s s' : AS} {Q : Exit → AS → Prop} {ops : Array Oper} {l : List Oper}
def BaseO (s : AS) (b : AV) (e : TypeId) (sz : Nat) {α : Type} (li : List α) (enc : α → List Value) (z : α) : Prop :=
  (b = .s (.v (.slice none 0 0)) ∧ li = []) ∨ (∃ id, b = .s (.ref id) ∧ fnd s.hp id = some (.sl .own e sz li enc z))
theorem kill_own {id : Nat} {e : TypeId} {sz : Nat} {α : Type} {li : List α} {enc : α → List Value} {z : α} (hf : fnd s.hp id = some (.sl .own e sz li enc z)) : kill s (.s (.ref id)) = { s with hp := rem s.hp id } := by
  simp only [kill, hf]
theorem APPS (hT : TTok P tt) (b src : AV) (t e : TypeId) (d : Option Tmp) (sz : Nat) {α : Type} (li xs : List α) (enc : α → List Value) (z : α) (h : appA s l = some (b, src, t, d)) (ht : (isSlK tt t e && isSz tt e sz && Nat.ble 1 sz) = true)
    (hzs : (tyL tt e).map (fun i => (avOf i.zero).cells.length) = some sz) (hp : (appP s b d e sz (li ++ xs) enc z).isSome = true) (hb : BaseO s b e sz li enc z) (hsrc : ∃ id k, src = .s (.ref id) ∧ fnd s.hp id = some (.sl k e sz xs enc z)) (henc : ∀ y, (enc y).length = sz) (h1 : ∀ y, ∀ v ∈ enc y, v.oneCell' = true)
    (hroom : ∀ i, tyL tt e = some i → (li.length + xs.length) * i.bytes ≤ 140737488355328 ∧ li.length + xs.length ≤ 9223372036854775807)
    (hK : WPO P cx ops l.tail ((appP s b d e sz (li ++ xs) enc z).getD s) Q) : WPO P cx ops l s Q := by
  obtain ⟨sid, sk, hs1, hs2⟩ := hsrc
  by_cases hx : xs = []
  · subst hx
    rw [List.append_nil] at hp hK
    obtain ⟨s', hs'⟩ := Option.isSome_iff_exists.1 hp
    rw [hs'] at hK
    simp only [appP] at hs'
    simp only [Bool.and_eq_true] at ht
    cases l with
    | nil => cases h
    | cons o rest =>
      simp only [appA] at h
      split at h <;> try (cases h; done)
      rename_i c ho hg
      split at h <;> try (cases h; done)
      rename_i x y t1 t2 hc hargs htys
      split at h <;> try (cases h; done)
      rename_i u v hu hv
      rcases hbt : Nat.beq t1 t2 with _ | _
      · rw [hbt] at h; cases h
      · rw [hbt] at h
        simp only [cond_true, Option.some.injEq, Prod.mk.injEq] at h
        obtain ⟨rfl, rfl, rfl, rfl⟩ := h
        have htt := Nat.eq_of_beq_eq_true hbt
        subst htt
        intro n a w hs0
        have hw : Region.wanted o (yielded ops a.tmps) = true := by simp [Region.wanted, hg]
        have hH : Holds a [] := fun x hx => by cases hx
        obtain ⟨tti, htt, htd⟩ := Option.map_eq_some_iff.1 (isSlK_spec ht.1.1)
        obtain ⟨ei, hee, hes⟩ := Option.map_eq_some_iff.1 (isSz_spec ht.1.2)
        obtain ⟨F⟩ := hT.get htt
        obtain ⟨G⟩ := hT.get hee
        have hd : F.desc = .slice e := by
          have := F.td
          rw [htd] at this
          cases hd : F.desc <;> rw [hd] at this <;> simp only [tdOf] at this <;> first
            | (cases this; done)
            | (injection this with h; rw [h])
        obtain ⟨e1, _⟩ := ev_sound hs0.env hH hu
        obtain ⟨e2, _⟩ := ev_sound hs0.env hH hv
        obtain ⟨A2, cp2, hsv, _⟩ := sl_addr hs0.heap hs2
        have hsv' : v.c n = .slice A2 0 cp2 := by rw [hs1]; exact hsv
        have hbv : ∃ A k cp, u.c n = .slice A k cp ∧ k ≤ cp := by
          rcases hb with ⟨rfl, _⟩ | ⟨id, rfl, hf⟩
          · exact ⟨none, 0, 0, rfl, Nat.le_refl _⟩
          · obtain ⟨A, cp, hv, hc, _⟩ := sl_addr hs0.heap hf
            exact ⟨A, _, cp, hv, hc⟩
        obtain ⟨A, k, cp, hbv, hkc⟩ := hbv
        have hargs' : c.args.map a.eval = #[.slice A k cp, .slice A2 0 cp2] := by
          apply Array.ext'
          simp [hargs, e1, e2, hbv, hsv']
        have htys' : c.argTypes = #[t1, t1] := by
          apply Array.ext'
          simpa using htys
        have hfc : (Builtin.firstCells ei.size 0 (.slice A2 0 cp2)).run P w = .ok #[] w := by
          cases A2 with
          | none => rfl
          | some ad => simpa using run_firstCells_some (P := P) w ei.size 0 ad 0 cp2 [] (by simp) (fun j u h => by simp at h)
        have hrun : (execOp a.eval o).run P w = .ok (.value (u.c n)) w := by
          unfold execOp
          rw [ho]
          simp only [resolve, hc, hargs', htys', Sem.run_bind, Sem.run_pure, Result.andThen_ok, invoke, builtin]
          simp [Builtin.append_, run_underlying F.hdesc, hd, run_sizeOf' G, Builtin.lenOf, hkc, hfc, hbv]
          cases A <;> simp [storeCells]
        have hst : Sat cx (upd n s.nx (u.c n)) ((kill s u).add (.sl .own e sz li enc z)) a w := by
          rcases hb with ⟨rfl, rfl⟩ | ⟨id, rfl, hf⟩
          · have hh : HSat cx (upd n s.nx (.slice none 0 0)) (s.add (.sl .own e sz ([] : List α) enc z)) w :=
              hs0.heap.add (Below.refl _ _) rfl ⟨henc, fun g hg => (by cases hg), by rw [show flat ([] : List α) enc = [] from rfl]; exact ⟨by simp, .inl ⟨rfl, by simp⟩⟩⟩ trivial (fun g hg => (by cases hg)) (fun g hg => (by cases hg))
            exact env_add hs0 (upd_lt n s.nx _) hh
          · rw [kill_own hf]
            have he0 := hs0.heap.ents _ (fnd_mem hf)
            have hdis : ∀ x ∈ rem s.hp id, ∀ g, x.2.foot (n x.1) g → vblk (n id) ≠ some g := fun x hx g hg hv => by
              have hsym : ∀ (x y : Nat × HE), ((x.2.mut = true ∨ y.2.mut = true) → ∀ g, x.2.foot (n x.1) g → ¬ y.2.foot (n y.1) g) → ((y.2.mut = true ∨ x.2.mut = true) → ∀ g, y.2.foot (n y.1) g → ¬ x.2.foot (n x.1) g) :=
                fun x y h hm g h1 h2 => h hm.symm g h2 h1
              exact pw_mem hsym hs0.heap.sep ((rem_sub s.hp id).subset hx) (fnd_mem hf) (fun e => rem_ne hx (by rw [e])) (.inr rfl) g hg hv
            have hs1 : Sat cx n { s with hp := rem s.hp id } a w := env_hp hs0 (rem_more s id) (hs0.heap.rem id)
            exact env_add hs1 (upd_lt n s.nx _) (hs1.heap.add (Below.refl _ _) (hs0.heap.one id) ⟨he0.1, he0.2.1, he0.2.2⟩ trivial (fun g hg => hs0.heap.lt _ (fnd_mem hf) g hg) (fun g hg => .inr fun x hx _ hxg => hdis x hx g hxg hg))
        exact wp_value hw hrun (hK _ _ _ (put_sat hst hs' (fun _ => ⟨by simp only [AV.c, AC.c, upd_same], Nat.lt_of_lt_of_le (Nat.lt_succ_self _) (by rw [← kill_nx (s := s) u]; exact Nat.le_refl _)⟩) (fun hn => absurd hH hn)))
  · exact APP hT b src t e d sz li xs enc z h ht hzs hp (hb.imp (fun h => h) (fun h => .inl h)) (.inr ⟨sid, sk, hs1, hs2, List.length_pos_iff.2 hx⟩) hx henc h1 hroom hK
end
end Go.Proofs.YthfnedbpmdkdjaaDoor.Eng
namespace Go.Proofs.YthfnedbpmdkdjaaDoor.Cm
open Go Go.RowKit Go.Proofs.YthfnedbpmdkdjaaDoor.Eng
set_option linter.unusedVariables false
set_option linter.unusedSimpArgs false
set_option linter.unusedSectionVars false
structure Span where (lo hi : Int)
def zSpan : Span := ⟨0, 0⟩
abbrev iv (x : Int) : Value := .int .i64 x
abbrev ai (x : Int) : AC := .int .i64 x
abbrev wr (x : Int) : Int := IntKind.i64.wrap x
def encI (x : Int) : List Value := [iv x]
theorem Reads.len {w : World} {v : Value} {sz : Nat} {α : Type} {l : List α} {enc : α → List Value} {z : α} (h : Reads w v sz l enc z) : (l.length : Int) ≤ 9223372036854775807 := by
  obtain ⟨A, c, _, h1, h2, _⟩ := h
  have : maxLen = 9223372036854775807 := rfl
  omega
theorem wr_id {x : Int} (h1 : -9223372036854775808 ≤ x) (h2 : x ≤ 9223372036854775807) : wr x = x := by
  show IntKind.i64.wrap x = x
  simp [IntKind.wrap, IntKind.bits, IntKind.signed]
  omega
theorem wrapI {x : Int} (h1 : -9223372036854775808 ≤ x) (h2 : x ≤ 9223372036854775807) : IntKind.i64.wrap x = x := wr_id h1 h2
theorem getD_mem {α : Type} {l : List α} {k : Nat} {z : α} (h : k < l.length) : l.getD k z ∈ l := by
  rw [List.getD_eq_getElem?_getD, List.getElem?_eq_getElem h]
  exact List.getElem_mem h
def rangeF (low : Int) (high : Int) : Span :=
  (⟨low, high⟩ : Span)
theorem rangeF_calls  (low : Int) (high : Int) (w : World)   : Calls Tryd.prog 40 #[iv low, iv high] w fun e w' => e = .returned (.agg #[iv (rangeF low high).lo, iv (rangeF low high).hi]) ∧ Below w.heap.size w w' := by
  refine calls_of_WP (cx := cx0 w Eng.n0 0) (n := Eng.n0) (vs := [.s (.int .i64 low), .s (.int .i64 high)]) (hp := []) (nx := 0) tt_ok Tryd.func40 rfl rfl rfl (by kernel_rfl) (HSat0 _ _ _ _ _ _ (fun _ => rfl) (Nat.le_refl _)) (vsOk (by kernel_rfl)) ?_
  refine WP_seq (WP_region (WPO_all tt_ok (by kernel_rfl) ?_))
  refine WP_seq (WP_region (WPO_all tt_ok (by kernel_rfl) ?_))
  refine WP_ret ?_
  exact ⟨.g [.int .i64 low, .int .i64 high], by kernel_rfl, fun nV w' h => ⟨by rw [show rangeF low high = (⟨low, high⟩ : Span) from rfl]; rfl, h.bel⟩⟩
def pointF (n : Int) : Span :=
  (rangeF n n)
theorem pointF_calls  (n : Int) (w : World)   : Calls Tryd.prog 65 #[iv n] w fun e w' => e = .returned (.agg #[iv (pointF n).lo, iv (pointF n).hi]) ∧ Below w.heap.size w w' := by
  refine calls_of_WP (cx := cx0 w Eng.n0 0) (n := Eng.n0) (vs := [.s (.int .i64 n)]) (hp := []) (nx := 0) tt_ok Tryd.func65 rfl rfl rfl (by kernel_rfl) (HSat0 _ _ _ _ _ _ (fun _ => rfl) (Nat.le_refl _)) (vsOk (by kernel_rfl)) ?_
  refine WP_seq (WP_region (WPO_all tt_ok (by kernel_rfl) ?_))
  refine WP_seq (WP_region (WPO_run tt_ok 2 (by kernel_rfl) ?_))
  refine CALL 40 [.s (.int .i64 n), .s (.int .i64 n)] (.g [.int .i64 (rangeF n n).lo, .int .i64 (rangeF n n).hi]) [] (by kernel_rfl) (goes_of (by kernel_rfl)) (by kernel_rfl) (by kernel_rfl) (fun _ nV w h => rangeF_calls  n n w  ) ?_
  refine WPO_all tt_ok (by kernel_rfl) ?_
  refine WP_ret ?_
  exact ⟨.g [.int .i64 (rangeF n n).lo, .int .i64 (rangeF n n).hi], by kernel_rfl, fun nV w' h => ⟨by rw [show pointF n = (rangeF n n) from rfl]; rfl, h.bel⟩⟩
def alikeF_c1 (l : List Int) (m : List Int) (k1 : Nat) : Unit → Bool := fun _ => decide ((k1 : Int) < (l.length : Int))
def alikeF_b1 (l : List Int) (m : List Int) (k1 : Nat) : Unit → Bd Unit Bool := fun _ => (bif (l.getD k1 0) != (m.getD k1 0) then .ret false else .go ())
def alikeF (l : List Int) (m : List Int) : Bool :=
  (bif (l.length : Int) != (m.length : Int) then false else (match loopR (alikeF_c1 l m) (alikeF_b1 l m) l.length 0 () with | .brk () => true | .ret r => r))
theorem alikeF_calls (g0 g1 : Value) (l : List Int) (m : List Int) (w : World) (r0 : Reads w g0 1 l encI 0) (r1 : Reads w g1 1 m encI 0)  : Calls Tryd.prog 24 #[g0, g1] w fun e w' => e = .returned (.bool (alikeF l m)) ∧ Below w.heap.size w w' := by
  refine calls_of_WP (cx := cx0 w (vn [g0, g1]) 2) (n := vn [g0, g1]) (vs := [.s (.ref 0), .s (.ref 1)]) (hp := [(0, .sl .ro 3 1 l encI 0), (1, .sl .ro 3 1 m encI 0)]) (nx := 2) tt_ok Tryd.func24 rfl rfl rfl (by kernel_rfl) (HSat_args (vn_one (by simp [r0.one, r1.one])) (Nat.le_refl _) ⟨⟨⟨fun _ => rfl, by decide, r0⟩, (Nat.le_of_ble_eq_true rfl)⟩, ⟨⟨fun _ => rfl, by decide, r1⟩, (Nat.le_of_ble_eq_true rfl)⟩, trivial⟩) (vsOk (by kernel_rfl)) ?_
  have hl0 := Reads.len r0
  have hl1 := Reads.len r1
  refine WP_seq (WP_region (WPO_all tt_ok (by kernel_rfl) ?_))
  refine WP_seq (WP_seq (WP_region (WPO_all tt_ok (by kernel_rfl) ?_)))
  refine WP_cond ((l.length : Int) != (m.length : Int)) (by kernel_rfl) (fun hc2 => ?_) (fun hc2 => ?_)
  · have hc2' := hc2; try simp only [Bool.and_eq_true, Bool.or_eq_true, Bool.and_eq_false_iff, Bool.or_eq_false_iff, Bool.not_eq_true', Bool.not_eq_false', decide_eq_true_eq, decide_eq_false_iff_not, beq_iff_eq, beq_eq_false_iff_ne, bne_iff_ne, bne_eq_false_iff_eq, ne_eq] at hc2'
    refine WP_seq (WP_region (WPO_all tt_ok (by kernel_rfl) ?_))
    refine WP_ret ?_
    exact ⟨.s (.bool false), by kernel_rfl, fun nV w' h => ⟨by rw [show alikeF l m = false from by unfold alikeF; simp only [hc2, cond_true, cond_false]]; rfl, h.bel⟩⟩
  have hc2' := hc2; try simp only [Bool.and_eq_true, Bool.or_eq_true, Bool.and_eq_false_iff, Bool.or_eq_false_iff, Bool.not_eq_true', Bool.not_eq_false', decide_eq_true_eq, decide_eq_false_iff_not, beq_iff_eq, beq_eq_false_iff_ne, bne_iff_ne, bne_eq_false_iff_eq, ne_eq] at hc2'
  refine WP_skip ?_
  refine WP_seq (WP_seq (WP_region (WPO_all tt_ok (by kernel_rfl) ?_)))
  refine WP_loopA (ρ := Bool) (alikeF_c1 l m) (alikeF_b1 l m) l.length () (fun k : Nat => (k : Int)) (fun (ci : Int) (zz : Unit) => ⟨26, [(5, [], .s (.int .i64 ci)), (0, [], .s (.ref 0)), (1, [], .s (.ref 1))], [(0, .sl .ro 3 1 l encI 0), (1, .sl .ro 3 1 m encI 0)], 2, []⟩) (fun zz : Unit => ⟨26, [], [(0, .sl .ro 3 1 l encI 0), (1, .sl .ro 3 1 m encI 0)], 2, []⟩) (fun k zz => True) trivial ⟨0, rfl, Le_sel (ts := [5, 0, 1]) (ids := [0, 1]) (nx := 2) (by kernel_rfl)⟩ ?_ ?_
  · intro k1 zz hn1 hp1 hi1 Q1 hq1 ho1
    refine WP_seq (WP_seq (WP_region (WPO_all tt_ok (by kernel_rfl) ?_)))
    refine WP_cond (decide ((k1 : Int) < (l.length : Int))) (by kernel_rfl) (fun hc3 => ?_) (fun hc3 => ?_)
    rotate_left
    · refine WP_exit ?_
      show Q1 (.exit 0) _
      exact LA_exit hq1 () (loopR_end hi1 hc3) ⟨k1, hn1, hp1⟩ (Le_sel (ts := []) (ids := [0, 1]) (nx := 2) (by kernel_rfl))
    have hc3' := of_decide_eq_true hc3
    have hk1 : k1 < l.length := by omega
    refine WP_skip ?_
    refine WP_seq (WP_block ?_)
    refine WP_seq (WP_draw (by kernel_rfl) (by kernel_rfl) ?_)
    refine WPQ_run tt_ok 2 (by kernel_rfl) ?_
    refine QIX tt_ok (k1 : Int) l.length [] (by kernel_rfl) (fun hG => ⟨by omega, by omega⟩) ?_
    refine WPQ_run tt_ok 3 (by kernel_rfl) ?_
    refine QIX tt_ok (k1 : Int) m.length [] (by kernel_rfl) (fun hG => ⟨by omega, by omega⟩) ?_
    refine WPQ_all tt_ok (by kernel_rfl) ?_
    refine WP_cond ((l.getD k1 0) != (m.getD k1 0)) (by kernel_rfl) (fun hc5 => ?_) (fun hc5 => ?_)
    · have hc5' := hc5; try simp only [Bool.and_eq_true, Bool.or_eq_true, Bool.and_eq_false_iff, Bool.or_eq_false_iff, Bool.not_eq_true', Bool.not_eq_false', decide_eq_true_eq, decide_eq_false_iff_not, beq_iff_eq, beq_eq_false_iff_ne, bne_iff_ne, bne_eq_false_iff_eq, ne_eq] at hc5'
      refine WP_seq (WP_region (WPO_all tt_ok (by kernel_rfl) ?_))
      refine WP_ret ?_
      show Q1 .ret _
      refine LA_ret hq1 ?_
      have he6 := loopR_ret (r := false) hi1 hk1 hc3 (by unfold alikeF_b1; simp only [hc5, cond_true, cond_false])
      exact ⟨.s (.bool false), by kernel_rfl, fun nV w' h => ⟨by rw [show alikeF l m = false from by unfold alikeF; simp only [hc2, he6, cond_true, cond_false]]; rfl, h.bel⟩⟩
    have hc5' := hc5; try simp only [Bool.and_eq_true, Bool.or_eq_true, Bool.and_eq_false_iff, Bool.or_eq_false_iff, Bool.not_eq_true', Bool.not_eq_false', decide_eq_true_eq, decide_eq_false_iff_not, beq_iff_eq, beq_eq_false_iff_ne, bne_iff_ne, bne_eq_false_iff_eq, ne_eq] at hc5'
    refine WP_skip ?_
    refine WP_region (WPO_all tt_ok (by kernel_rfl) ?_)
    show Q1 .normal _
    exact LA_go hq1 (ci := IntKind.i64.wrap ((k1 : Int) + 1)) () hk1 (by show _ = ((k1 + 1 : Nat) : Int); rw [wrapI (by omega) (by omega)]; omega) (loopR_go hi1 hk1 hc3 (by unfold alikeF_b1; simp only [hc5, cond_true, cond_false])) trivial (Le_sel (ts := [5, 0, 1]) (ids := [0, 1]) (nx := 2) (by kernel_rfl))
  intro zz hR1 hP1 s' hl
  refine WP_le hl ?_
  clear hl s'
  refine WP_seq (WP_region (WPO_all tt_ok (by kernel_rfl) ?_))
  refine WP_ret ?_
  exact ⟨.s (.bool true), by kernel_rfl, fun nV w' h => ⟨by rw [show alikeF l m = true from by unfold alikeF; simp only [hc2, hR1, cond_true, cond_false]]; rfl, h.bel⟩⟩
end Go.Proofs.YthfnedbpmdkdjaaDoor.Cm
namespace Go.Proofs.YthfnedbpmdkdjaaDoor.Eng
open Go Go.RowKit
set_option linter.unusedVariables false
set_option linter.unusedSimpArgs false
abbrev mapF {κ : Type} (g : Nat) (L : List κ) (ek ex : κ → Value) : HE := .pf (fun w => w.heap[g]? = some (.map (ents L ek ex) L.length)) (· = g)
def lkpA (tt : TT) (ops : Array Oper) (s : AS) : List Oper → Option (AV × TypeId × TypeId × AV × List (Bool × Bool) × Option Tmp × List (Nat × Bool))
  | o :: _ => match o.op, gTag s ops o with
    | .lookup t m k false, some T => match tyL tt t, ev s T m, ev s T k with
      | some ⟨_, _, _, .map kt e⟩, some mv, some kv => some (mv, kt, e, kv, tagL s T, o.dst, T)
      | _, _, _ => none
    | _, _ => none
  | [] => none
def lkpP (tt : TT) (ops : Array Oper) (s : AS) (l : List Oper) (r : AV) : Option AS :=
  match lkpA tt ops s l with
  | some (_, _, _, _, _, d, T) => s.put d T r
  | none => none
theorem zip_find {κ : Type} (p : κ → Bool) : ∀ (L : List κ) (i : Nat), ((L.zipIdx i).find? fun z => p z.1).map (·.1) = L.find? p
  | [], i => rfl
  | x :: r, i => by
    rw [List.zipIdx_cons, List.find?_cons, List.find?_cons]
    cases p x
    · exact zip_find p r (i + 1)
    · rfl
section
variable {P : Program} {tt : TT} {cx : Cx} {s s' : AS} {Q : Exit → AS → Prop} {ops : Array Oper} {l : List Oper}
theorem LKP (hT : TTok P tt) {κ : Type} (L : List κ) (ek ex : κ → Value) (c g : Nat) (kt e : TypeId) (kv r : AV) (G : List (Bool × Bool)) (h : (lkpA tt ops s l).map (fun z => (z.1, z.2.1, z.2.2.1, z.2.2.2.1, z.2.2.2.2.1)) = some (.s (.v (.map (some g))), kt, e, kv, G))
    (hp : (lkpP tt ops s l r).isSome = true) (hr : okB s r = true) (hw : ∀ n w, HSat cx n s w → w.heap[g]? = some (.map (ents L ek ex) c))
    (hck : ∀ n w b, (Instr.checkKey b 10000 kt (kv.c n)).run P w = .ok () w)
    (hres : ∀ n w, ∃ z, (Instr.findKey kt (kv.c n) (ents L ek ex).toList).run P w = .ok z w ∧ ((∃ i, z = some (i, r.c n)) ∨ (z = none ∧ (tyL tt e).map (fun i => i.zero) = some (r.c n))))
    (hK : WPO P cx ops l.tail ((lkpP tt ops s l r).getD s) Q) : WPO P cx ops l s Q := by
  obtain ⟨⟨mv, kt', e', kv', G', d, T⟩, hr', he⟩ := Option.map_eq_some_iff.1 h
  simp only [Prod.mk.injEq] at he
  obtain ⟨rfl, rfl, rfl, rfl, rfl⟩ := he
  cases l with
  | nil => cases hr'
  | cons o rest =>
    obtain ⟨s', hs'⟩ := Option.isSome_iff_exists.1 hp
    rw [hs'] at hK
    simp only [lkpP, hr'] at hs'
    simp only [lkpA] at hr'
    split at hr' <;> try (cases hr'; done)
    rename_i t m k T' ho hg
    split at hr' <;> try (cases hr'; done)
    rename_i z1 b1 zv kt2 e2 mv2 kv2 ht hm hk
    simp only [Option.some.injEq, Prod.mk.injEq] at hr'
    obtain ⟨rfl, rfl, rfl, rfl, rfl, rfl, rfl⟩ := hr'
    obtain ⟨F⟩ := hT.get ht
    have hd : F.desc = .map kt2 e2 := by
      have := F.td
      cases hd : F.desc <;> rw [hd] at this <;> simp only [tdOf] at this <;> first
        | (cases this; done)
        | (injection this with h1 h2; rw [h1, h2])
    refine WPO_val hg hs' (fun htp n a w hh henv hH => ⟨?_, okB_sound hr⟩) hK
    obtain ⟨e1, _⟩ := ev_sound henv hH hm
    obtain ⟨e2', _⟩ := ev_sound henv hH hk
    simp only [AV.c, AC.c] at e1
    obtain ⟨z, hz, hz2⟩ := hres n w
    unfold execOp
    rw [ho]
    simp only [e1, e2', Sem.run_bind, Instr.lookup, run_underlying F.hdesc, hd, Result.andThen_ok, run_getObj' (hw n w hh), Sem.run_pure, hck, hz]
    rcases hz2 with ⟨i, rfl⟩ | ⟨rfl, hzero⟩
    · simp only [Sem.run_bind, Sem.run_pure, Result.andThen_ok]; rfl
    · obtain ⟨i, hi, hi2⟩ := Option.map_eq_some_iff.1 hzero
      obtain ⟨E⟩ := hT.get hi
      simp only [Sem.run_bind, run_zero' E, Sem.run_pure, Result.andThen_ok, hi2]; rfl
theorem check_pairB {t : TypeId} (h : pair2 P t = true) (a b : Int) (w : World) (z : Bool) : (Instr.checkKey z 10000 t (pairV a b)).run P w = .ok () w := by
  obtain ⟨fs, f, g, hu, hl, n1, n2, o1, o2, i1, i2, hp, _⟩ := pair2_spec h
  have hint : ∀ (d : Nat) (e : TypeId) (v : Int) (w : World), isI64 P e = true → (Instr.checkKey z (d + 1) e (.int .i64 v)).run P w = .ok () w := fun d e v w he => by
    unfold Instr.checkKey
    simp only [Sem.run_bind, run_underlying (isI64_spec he), Result.andThen_ok, Sem.run_pure]
  unfold pairV Instr.checkKey
  simp only [Sem.run_bind, run_underlying hu, Result.andThen_ok]
  rw [← Array.forIn_toList, hl]
  simp only [List.forIn_cons, List.forIn_nil, ne_eq, n1, n2, not_false_eq_true, if_true, Sem.run_bind]
  rw [run_part_cell (v := .int .i64 a) (.inl i1) (by rw [o1]; rfl)]
  simp only [Result.andThen_ok, hint 9998 _ _ _ i1, Sem.run_pure, Sem.run_bind]
  rw [run_part_cell (v := .int .i64 b) (.inl i2) (by rw [o2]; rfl)]
  simp only [Result.andThen_ok, hint 9998 _ _ _ i2, Sem.run_pure]
theorem check_int {t : TypeId} (h : isI64 P t = true) (a : Int) (w : World) (z : Bool) : (Instr.checkKey z 10000 t (.int .i64 a)).run P w = .ok () w := by
  unfold Instr.checkKey
  simp only [Sem.run_bind, run_underlying (isI64_spec h), Result.andThen_ok, Sem.run_pure]
theorem find_int {κ : Type} {t : TypeId} (h : isI64 P t = true) (a : Int) (key : κ → Int) (ek ex : κ → Value) (hk : ∀ x, ek x = .int .i64 (key x)) (w : World) (L : List κ) :
    (Instr.findKey t (.int .i64 a) (ents L ek ex).toList).run P w = .ok ((L.zipIdx.find? fun z => key z.1 == a).map fun z => (z.2, ex z.1)) w := by
  unfold Instr.findKey
  simp only [Sem.run_bind, run_underlying (isI64_spec h), Result.andThen_ok]
  have hmap : (ents L ek ex).toList = L.zipIdx.map fun z => ({ key := ek z.1, val := ex z.1, born := z.2 } : MapEntry) := by
    simp only [ents]
    rw [List.mapIdx_eq_zipIdx_map]
  rw [hmap]
  have key' : ∀ (L : List κ) (i : Nat), Instr.findNow (.int .i64) (.int .i64 a) ((L.zipIdx i).map fun z => ({ key := ek z.1, val := ex z.1, born := z.2 } : MapEntry)) i = some (((L.zipIdx i).find? fun z => key z.1 == a).map fun z => (z.2, ex z.1)) := by
    intro L
    induction L with
    | nil => intro i; rfl
    | cons x r ih =>
      intro i
      rw [List.zipIdx_cons, List.map_cons, List.find?_cons]
      unfold Instr.findNow
      rw [hk]
      simp only [Instr.sameNow, if_true]
      rw [show (a == key x) = (key x == a) from Bool.beq_comm]
      cases key x == a
      · exact ih (i + 1)
      · rfl
  rw [key' L 0]
  rfl
def atP {κ : Type} (L : List κ) (key : κ → Int × Int) (val : κ → Bool) (a b : Int) : Bool := ((L.find? fun x => key x == (a, b)).map val).getD false
def atI {κ : Type} (L : List κ) (key : κ → Int) (val : κ → Bool) (a : Int) : Bool := ((L.find? fun x => key x == a).map val).getD false
theorem LKP_pair (hT : TTok P tt) {κ : Type} (L : List κ) (ek ex : κ → Value) (key : κ → Int × Int) (val : κ → Bool) (c g : Nat) (kt e : TypeId) (a b : Int) (G : List (Bool × Bool)) (h : (lkpA tt ops s l).map (fun z => (z.1, z.2.1, z.2.2.1, z.2.2.2.1, z.2.2.2.2.1)) = some (.s (.v (.map (some g))), kt, e, .g [.int .i64 a, .int .i64 b], G))
    (hk : ∀ x, ek x = pairV (key x).1 (key x).2) (hv : ∀ x, ex x = .bool (val x)) (hkt : pair2 P kt = true) (hz : (tyL tt e).map (fun i => i.zero) = some (.bool false)) (hp : (lkpP tt ops s l (.s (.bool (atP L key val a b)))).isSome = true) (hw : ∀ n w, HSat cx n s w → w.heap[g]? = some (.map (ents L ek ex) c))
    (hK : WPO P cx ops l.tail ((lkpP tt ops s l (.s (.bool (atP L key val a b)))).getD s) Q) : WPO P cx ops l s Q := by
  refine LKP hT L ek ex c g kt e _ (.s (.bool (atP L key val a b))) G h hp rfl hw (fun n w z => check_pairB hkt a b w z) (fun n w => ⟨_, find_pair hkt a b key ek ex hk w L, ?_⟩) hK
  have hf := zip_find (fun x => key x == (a, b)) L 0
  unfold atP
  rw [← hf]
  cases hq : L.zipIdx.find? fun z => key z.1 == (a, b) with
  | none => exact .inr ⟨rfl, hz⟩
  | some z => exact .inl ⟨z.2, by simp [AV.c, AC.c, hv]⟩
theorem LKP_int (hT : TTok P tt) {κ : Type} (L : List κ) (ek ex : κ → Value) (key : κ → Int) (val : κ → Bool) (c g : Nat) (kt e : TypeId) (a : Int) (G : List (Bool × Bool)) (h : (lkpA tt ops s l).map (fun z => (z.1, z.2.1, z.2.2.1, z.2.2.2.1, z.2.2.2.2.1)) = some (.s (.v (.map (some g))), kt, e, .s (.int .i64 a), G))
    (hk : ∀ x, ek x = .int .i64 (key x)) (hv : ∀ x, ex x = .bool (val x)) (hkt : isI64 P kt = true) (hz : (tyL tt e).map (fun i => i.zero) = some (.bool false)) (hp : (lkpP tt ops s l (.s (.bool (atI L key val a)))).isSome = true) (hw : ∀ n w, HSat cx n s w → w.heap[g]? = some (.map (ents L ek ex) c))
    (hK : WPO P cx ops l.tail ((lkpP tt ops s l (.s (.bool (atI L key val a)))).getD s) Q) : WPO P cx ops l s Q := by
  refine LKP hT L ek ex c g kt e _ (.s (.bool (atI L key val a))) G h hp rfl hw (fun n w z => check_int hkt a w z) (fun n w => ⟨_, find_int hkt a key ek ex hk w L, ?_⟩) hK
  have hf := zip_find (fun x => key x == a) L 0
  unfold atI
  rw [← hf]
  cases hq : L.zipIdx.find? fun z => key z.1 == a with
  | none => exact .inr ⟨rfl, hz⟩
  | some z => exact .inl ⟨z.2, by simp [AV.c, AC.c, hv]⟩
theorem CALLMAP (k : FuncId) (vs : List AV) {κ : Type} (L : List κ) (ek ex : κ → Value) (r : Nat → AV) (h : (callA ops s l).map (fun x => (x.1, x.2.1, x.2.2.2.2)) = some (k, vs, [])) (hgo : goes P k)
    (hp : ∀ g, (callPN ops s l (s.add (mapE g L ek ex)) (r g)).isSome = true) (hr : ∀ g, okB (s.add (mapE g L ek ex)) (r g) = true) (hrc : ∀ g n n', (∀ id, id < s.nx → n' id = n id) → (r g).c n = (r g).c n')
    (hcall : ∀ n w, HSat cx n s w → Calls P k (vs.map (AV.c n)).toArray w fun e' w' => ∃ g, e' = .returned ((r g).c n) ∧ Below w.heap.size w w' ∧ w.heap.size ≤ g ∧ w'.heap[g]? = some (.map (ents L ek ex) L.length))
    (hK : ∀ g, WPO P cx ops l.tail ((callPN ops s l (s.add (mapE g L ek ex)) (r g)).getD s) Q) : WPO P cx ops l s Q := by
  refine CALLX (σ := Nat) k vs (fun g => s.add (mapE g L ek ex)) r h hgo hp hr (fun g => More.add s _) (fun g => ⟨rfl, rfl, rfl⟩) (fun n w hh => (hcall n w hh).mono fun e' w' ⟨g, h2, h3, h1, h4⟩ => ⟨g, upd n s.nx .nilFunc, upd_lt n s.nx _, by rw [h2, hrc g n _ (upd_lt n s.nx _)], ?_⟩) hK
  exact hh.add h3 rfl ⟨h4, fun g' hg' => by cases hg'; exact hh.fr.news g (Nat.le_trans hh.fr.size h1), mapE_stab⟩ trivial (fun g' hg' => by cases hg'; exact (Array.getElem?_eq_some_iff.1 h4).1) (fun g' hg' => by cases hg'; exact .inl h1)
def insA (tt : TT) (s : AS) : List Oper → Option (AV × TypeId × AV × AV × Option Tmp)
  | o :: _ => match o.op, o.guard with
    | .insert t m k x, none => match tyL tt t, ev s [] m, ev s [] k, ev s [] x with
      | some ⟨_, _, _, .map kt _⟩, some mv, some kv, some xv => some (mv, kt, kv, xv, o.dst)
      | _, _, _, _ => none
    | _, _ => none
  | [] => none
theorem INSg (hT : TTok P tt) {κ : Type} (L : List κ) (ek ex : κ → Value) (x : κ) (id g : Nat) (kt : TypeId) (kv xv : AV) (h : insA tt s l = some (.s (.v (.map (some g))), kt, kv, xv, none)) (hf : fnd s.hp id = some (mapE g L ek ex))
    (hk : ∀ n, kv.c n = ek x ∧ xv.c n = ex x) (hck : ∀ w, (Instr.checkKey false 10000 kt (ek x)).run P w = .ok () w) (hfind : ∀ w, (Instr.findKey kt (ek x) (ents L ek ex).toList).run P w = .ok none w)
    (hK : WPO P cx ops l.tail { s with hp := rep s.hp id (mapE g (L ++ [x]) ek ex) } Q) : WPO P cx ops l s Q := fun n a w hs => by
  cases l with
  | nil => cases h
  | cons o rest =>
    simp only [insA] at h
    split at h <;> try (cases h; done)
    rename_i t m k xx ho hg
    split at h <;> try (cases h; done)
    rename_i z1 b1 zv kt' e mv' kv' xv' ht hm' hk' hx'
    simp only [Option.some.injEq, Prod.mk.injEq] at h
    obtain ⟨rfl, rfl, rfl, rfl, hdst⟩ := h
    obtain ⟨F⟩ := hT.get ht
    have hd : F.desc = .map kt' e := by
      have := F.td
      cases hd : F.desc <;> rw [hd] at this <;> simp only [tdOf] at this <;> first
        | (cases this; done)
        | (injection this with h1 h2; rw [h1, h2])
    have hH : Holds a [] := fun x hx => by cases hx
    obtain ⟨e1, _⟩ := ev_sound hs.env hH hm'
    obtain ⟨e2, _⟩ := ev_sound hs.env hH hk'
    obtain ⟨e3, _⟩ := ev_sound hs.env hH hx'
    obtain ⟨ho1, hok, _⟩ := hs.heap.ents _ (fnd_mem hf)
    rw [(hk n).1] at e2
    rw [(hk n).2] at e3
    simp only [AV.c, AC.c] at e1
    have hrun : (execOp a.eval o).run P w = .ok .skip (w.putObj g (.map (ents (L ++ [x]) ek ex) (L ++ [x]).length)) := by
      unfold execOp
      rw [ho]
      simp only [e1, e2, e3, Sem.run_bind, Instr.mapUpdate, run_underlying F.hdesc, hd, Result.andThen_ok, run_getObj' ho1, hck, hfind, run_setObj' ho1]
      rw [ents_snoc, List.length_append]
      rfl
    refine wp_skip1 (wanted_none (ops := ops) hg) hrun ?_
    rw [hdst]
    have hh := hs.heap.write (w' := w.putObj g (.map (ents (L ++ [x]) ek ex) (L ++ [x]).length)) (e := mapE g (L ++ [x]) ek ex) hf rfl (g := g) rfl rfl (fun _ => rfl) (Nat.le_refl _) (hok g rfl) (fun k hk => World.putObj_heap_other hk) World.putObj_size rfl rfl rfl
      ⟨World.putObj_heap_same (Array.getElem?_eq_some_iff.1 ho1).1, hok, mapE_stab⟩ trivial
    exact hK _ _ _ (env_hp hs (more_rep hf (Nat.le_refl _)) hh)
end
end Go.Proofs.YthfnedbpmdkdjaaDoor.Eng
namespace Go.Proofs.YthfnedbpmdkdjaaDoor.D
open Go Go.RowKit Go.Proofs.YthfnedbpmdkdjaaDoor.Eng Go.Proofs.YthfnedbpmdkdjaaDoor.Cm
set_option linter.unusedVariables false
set_option linter.unusedSimpArgs false
set_option linter.unusedSectionVars false
structure Load where
  w : Span
  lanes : Int
structure Place where (load lane : Int)
structure DBook where
  loads : List Load
  rule : Int
  most : Int
def zLoad : Load := ⟨zSpan, 0⟩
def zPlace : Place := ⟨0, 0⟩
def encLoad (x : Load) : List Value := [iv x.w.lo, iv x.w.hi, iv x.lanes]
def encPlace (x : Place) : List Value := [iv x.load, iv x.lane]
structure Pl where (load lane : Int) (is : Bool)
def laneB (x : Load) (lane : Int) : Bool := (IntKind.i64.wrap (BitVec.ofInt IntKind.i64.bits (Int.fdiv x.lanes (2 ^ (min lane.toNat IntKind.i64.bits))) &&& BitVec.ofInt IntKind.i64.bits 1).toNat) == 1
def plKey (x : Pl) : Value := .agg #[iv x.load, iv x.lane]
def plVal (x : Pl) : Value := .bool x.is
def plL (b : DBook) : List Pl := ⟨-1, 0, false⟩ :: ((List.range b.loads.length).flatMap fun k : Nat => (List.range 3).map fun l : Nat => (⟨k, l, laneB (b.loads.getD k zLoad) l⟩ : Pl))
def plK (x : Pl) : Int × Int := (x.load, x.lane)
abbrev plIs (x : Pl) : Bool := x.is
def withinD (n : Int) (low : Int) (high : Int) : Bool :=
  (decide (low ≤ n)) && (decide (n ≤ high))
theorem withinD_calls  (n : Int) (low : Int) (high : Int) (w : World)   : Calls Tryd.prog 89 #[iv n, iv low, iv high] w fun e w' => e = .returned (.bool (withinD n low high)) ∧ Below w.heap.size w w' := by
  refine calls_of_WP (cx := cx0 w Eng.n0 0) (n := Eng.n0) (vs := [.s (.int .i64 n), .s (.int .i64 low), .s (.int .i64 high)]) (hp := []) (nx := 0) tt_ok Tryd.func89 rfl rfl rfl (by kernel_rfl) (HSat0 _ _ _ _ _ _ (fun _ => rfl) (Nat.le_refl _)) (vsOk (by kernel_rfl)) ?_
  refine WP_seq (WP_region (WPO_all tt_ok (by kernel_rfl) ?_))
  refine WP_seq (WP_region (WPO_all tt_ok (by kernel_rfl) ?_))
  refine WP_ret ?_
  exact ⟨.s (.bool ((decide (low ≤ n)) && (decide (n ≤ high)))), by kernel_rfl, fun nV w' h => ⟨by rw [show withinD n low high = ((decide (low ≤ n)) && (decide (n ≤ high))) from rfl]; rfl, h.bel⟩⟩
def checkD_c1 (b : DBook) (k1 : Nat) : Bool → Bool := fun v1_1 => decide ((k1 : Int) < (b.loads.length : Int))
def checkD_b1 (b : DBook) (k1 : Nat) : Bool → Bd Bool Int := fun v1_1 => .go ((((v1_1 && (withinD (b.loads.getD k1 zLoad).w.lo 1 (b.loads.getD k1 zLoad).w.hi)) && (decide ((b.loads.getD k1 zLoad).w.hi ≤ 60))) && (decide ((IntKind.i64.wrap ((b.loads.getD k1 zLoad).w.hi - (b.loads.getD k1 zLoad).w.lo)) ≤ 4))) && (withinD (b.loads.getD k1 zLoad).lanes 1 7))
def checkD (b : DBook) : Int :=
  (match loopR (checkD_c1 b) (checkD_b1 b) b.loads.length 0 (((withinD (b.loads.length : Int) 1 5) && (withinD b.rule 0 30)) && (withinD b.most 1 200)) with | .brk u1_0 => (bif !u1_0 then 30 else 0) | .ret r => r)
theorem checkD_calls (g0 : Value) (b : DBook) (w : World) (r0 : Reads w g0 3 b.loads encLoad zLoad)  : Calls Tryd.prog 66 #[.agg #[g0, iv b.rule, iv b.most]] w fun e w' => e = .returned (iv (checkD b)) ∧ Below w.heap.size w w' := by
  refine calls_of_WP (cx := cx0 w (vn [g0]) 1) (n := vn [g0]) (vs := [.g [.ref 0, .int .i64 b.rule, .int .i64 b.most]]) (hp := [(0, .sl .ro 61 3 b.loads encLoad zLoad)]) (nx := 1) tt_ok Tryd.func66 rfl rfl rfl (by kernel_rfl) (HSat_args (vn_one (by simp [r0.one])) (Nat.le_refl _) ⟨⟨⟨fun _ => rfl, by decide, r0⟩, (Nat.le_of_ble_eq_true rfl)⟩, trivial⟩) (vsOk (by kernel_rfl)) ?_
  have hl0 := Reads.len r0
  refine WP_seq (WP_region (WPO_all tt_ok (by kernel_rfl) ?_))
  refine WP_seq (WP_region (WPO_run tt_ok 3 (by kernel_rfl) ?_))
  refine CALL 89 [.s (.int .i64 (b.loads.length : Int)), .s (.int .i64 1), .s (.int .i64 5)] (.s (.bool (withinD (b.loads.length : Int) 1 5))) [] (by kernel_rfl) (goes_of (by kernel_rfl)) (by kernel_rfl) (by kernel_rfl) (fun _ nV w h => withinD_calls  (b.loads.length : Int) 1 5 w  ) ?_
  refine WPO_run tt_ok 3 (by kernel_rfl) ?_
  refine CALL 89 [.s (.int .i64 b.rule), .s (.int .i64 0), .s (.int .i64 30)] (.s (.bool (withinD b.rule 0 30))) [((withinD (b.loads.length : Int) 1 5), true)] (by kernel_rfl) (goes_of (by kernel_rfl)) (by kernel_rfl) (by kernel_rfl) (fun _ nV w h => withinD_calls  b.rule 0 30 w  ) ?_
  refine WPO_run tt_ok 4 (by kernel_rfl) ?_
  refine CALL 89 [.s (.int .i64 b.most), .s (.int .i64 1), .s (.int .i64 200)] (.s (.bool (withinD b.most 1 200))) [((withinD (b.loads.length : Int) 1 5) && (withinD b.rule 0 30), true)] (by kernel_rfl) (goes_of (by kernel_rfl)) (by kernel_rfl) (by kernel_rfl) (fun _ nV w h => withinD_calls  b.most 1 200 w  ) ?_
  refine WPO_all tt_ok (by kernel_rfl) ?_
  refine WP_seq (WP_seq (WP_region (WPO_all tt_ok (by kernel_rfl) ?_)))
  refine WP_loopA (ρ := Int) (checkD_c1 b) (checkD_b1 b) b.loads.length (((withinD (b.loads.length : Int) 1 5) && (withinD b.rule 0 30)) && (withinD b.most 1 200)) (fun k : Nat => (k : Int)) (fun (ci : Int) (zz : Bool) => ⟨59, [(24, [], .s (.int .i64 ci)), (23, [], .s (.int .i64 (b.loads.length : Int))), (22, [], .s (.ref 0)), (3, [], .s (.bool zz))], [(1, .box 24 [.ref 0, .int .i64 b.rule, .int .i64 b.most]), (0, .sl .ro 61 3 b.loads encLoad zLoad)], 2, []⟩) (fun zz : Bool => ⟨59, [(3, [], .s (.bool zz))], [(1, .box 24 [.ref 0, .int .i64 b.rule, .int .i64 b.most]), (0, .sl .ro 61 3 b.loads encLoad zLoad)], 2, []⟩) (fun k zz => True) trivial ⟨0, rfl, Le_sel (ts := [24, 23, 22, 3]) (ids := [1, 0]) (nx := 2) (by kernel_rfl)⟩ ?_ ?_
  · intro k1 v1_1 hn1 hp1 hi1 Q1 hq1 ho1
    refine WP_seq (WP_region (WPO_all tt_ok (by kernel_rfl) ?_))
    refine WP_seq (WP_cond (decide ((k1 : Int) < (b.loads.length : Int))) (by kernel_rfl) (fun hc1 => ?_) (fun hc1 => ?_))
    rotate_left
    · refine WP_exit ?_
      show Q1 (.exit 0) _
      exact LA_exit hq1 v1_1 (loopR_end hi1 hc1) ⟨k1, hn1, hp1⟩ (Le_sel (ts := [3]) (ids := [1, 0]) (nx := 2) (by kernel_rfl))
    have hc1' := of_decide_eq_true hc1
    have hk1 : k1 < b.loads.length := by omega
    refine WP_skip ?_
    refine WP_seq (WP_block ?_)
    refine WP_seq (WP_region (IX tt_ok (k1 : Int) b.loads.length [] (by kernel_rfl) (fun hG => ⟨by omega, by omega⟩) ?_))
    refine WPO_all tt_ok (by kernel_rfl) ?_
    refine WP_seq (WP_region (WPO_all tt_ok (by kernel_rfl) ?_))
    refine WP_region (WPO_run tt_ok 6 (by kernel_rfl) ?_)
    refine CALL 89 [.s (.int .i64 (b.loads.getD k1 zLoad).w.lo), .s (.int .i64 1), .s (.int .i64 (b.loads.getD k1 zLoad).w.hi)] (.s (.bool (withinD (b.loads.getD k1 zLoad).w.lo 1 (b.loads.getD k1 zLoad).w.hi))) [(v1_1, true)] (by kernel_rfl) (goes_of (by kernel_rfl)) (by kernel_rfl) (by kernel_rfl) (fun _ nV w h => withinD_calls  (b.loads.getD k1 zLoad).w.lo 1 (b.loads.getD k1 zLoad).w.hi w  ) ?_
    refine WPO_run tt_ok 17 (by kernel_rfl) ?_
    refine CALL 89 [.s (.int .i64 (b.loads.getD k1 zLoad).lanes), .s (.int .i64 1), .s (.int .i64 7)] (.s (.bool (withinD (b.loads.getD k1 zLoad).lanes 1 7))) [(((v1_1 && (withinD (b.loads.getD k1 zLoad).w.lo 1 (b.loads.getD k1 zLoad).w.hi)) && (decide ((b.loads.getD k1 zLoad).w.hi ≤ 60))) && (decide ((IntKind.i64.wrap ((b.loads.getD k1 zLoad).w.hi - (b.loads.getD k1 zLoad).w.lo)) ≤ 4)), true)] (by kernel_rfl) (goes_of (by kernel_rfl)) (by kernel_rfl) (by kernel_rfl) (fun _ nV w h => withinD_calls  (b.loads.getD k1 zLoad).lanes 1 7 w  ) ?_
    refine WPO_all tt_ok (by kernel_rfl) ?_
    refine WP_region (WPO_all tt_ok (by kernel_rfl) ?_)
    show Q1 .normal _
    exact LA_go hq1 (ci := IntKind.i64.wrap ((k1 : Int) + 1)) ((((v1_1 && (withinD (b.loads.getD k1 zLoad).w.lo 1 (b.loads.getD k1 zLoad).w.hi)) && (decide ((b.loads.getD k1 zLoad).w.hi ≤ 60))) && (decide ((IntKind.i64.wrap ((b.loads.getD k1 zLoad).w.hi - (b.loads.getD k1 zLoad).w.lo)) ≤ 4))) && (withinD (b.loads.getD k1 zLoad).lanes 1 7)) hk1 (by show _ = ((k1 + 1 : Nat) : Int); rw [wrapI (by omega) (by omega)]; omega) (loopR_go hi1 hk1 hc1 (rfl)) trivial (Le_sel (ts := [24, 23, 22, 3]) (ids := [1, 0]) (nx := 2) (by kernel_rfl))
  intro u1_0 hR1 hP1 s' hl
  refine WP_le hl ?_
  clear hl s'
  refine WP_seq (WP_seq (WP_region (WPO_all tt_ok (by kernel_rfl) ?_)))
  refine WP_cond (!u1_0) (by kernel_rfl) (fun hc3 => ?_) (fun hc3 => ?_)
  · have hc3' := hc3; try simp only [Bool.and_eq_true, Bool.or_eq_true, Bool.and_eq_false_iff, Bool.or_eq_false_iff, Bool.not_eq_true', Bool.not_eq_false', decide_eq_true_eq, decide_eq_false_iff_not, beq_iff_eq, beq_eq_false_iff_ne, bne_iff_ne, bne_eq_false_iff_eq, ne_eq] at hc3'
    refine WP_seq (WP_region (WPO_all tt_ok (by kernel_rfl) ?_))
    refine WP_ret ?_
    exact ⟨.s (.int .i64 30), by kernel_rfl, fun nV w' h => ⟨by rw [show checkD b = 30 from by unfold checkD; simp only [hR1, hc3, cond_true, cond_false]]; rfl, h.bel⟩⟩
  have hc3' := hc3; try simp only [Bool.and_eq_true, Bool.or_eq_true, Bool.and_eq_false_iff, Bool.or_eq_false_iff, Bool.not_eq_true', Bool.not_eq_false', decide_eq_true_eq, decide_eq_false_iff_not, beq_iff_eq, beq_eq_false_iff_ne, bne_iff_ne, bne_eq_false_iff_eq, ne_eq] at hc3'
  refine WP_skip ?_
  refine WP_seq (WP_region (WPO_all tt_ok (by kernel_rfl) ?_))
  refine WP_ret ?_
  exact ⟨.s (.int .i64 0), by kernel_rfl, fun nV w' h => ⟨by rw [show checkD b = 0 from by unfold checkD; simp only [hR1, hc3, cond_true, cond_false]]; rfl, h.bel⟩⟩
def levelD (b : DBook) (l : Span) : Int :=
  (bif (withinD l.lo (IntKind.i64.wrap (0 - b.rule)) b.rule) && (withinD l.hi (IntKind.i64.wrap (0 - b.rule)) b.rule) then 2 else (bif (decide (l.lo ≤ b.rule)) && (decide (l.hi ≥ (IntKind.i64.wrap (0 - b.rule)))) then 1 else 0))
theorem levelD_calls (g0 : Value) (gm : Nat) (b : DBook) (l : Span) (w : World) (r0 : Reads w g0 3 b.loads encLoad zLoad) (hm : w.heap[gm]? = some (.map (ents (plL b) plKey plVal) (plL b).length)) : Calls Tryd.prog 87 #[.agg #[g0, iv b.rule, iv b.most, .map (some gm)], .agg #[iv l.lo, iv l.hi]] w fun e w' => e = .returned (iv (levelD b l)) ∧ Below w.heap.size w w' := by
  refine calls_of_WP (cx := cx0 w (vn [g0]) 1) (n := vn [g0]) (vs := [.g [.ref 0, .int .i64 b.rule, .int .i64 b.most, .v (.map (some gm))], .g [.int .i64 l.lo, .int .i64 l.hi]]) (hp := [(0, .sl .ro 61 3 b.loads encLoad zLoad), (1, mapF gm (plL b) plKey plVal)]) (nx := 2) tt_ok Tryd.func87 rfl rfl rfl (by kernel_rfl) (HSat_args (vn_one (by simp [r0.one])) (by decide) ⟨⟨⟨fun _ => rfl, by decide, r0⟩, (Nat.le_of_ble_eq_true rfl)⟩, ⟨⟨hm, fun w1 w2 h1 hw => (hw gm rfl).trans h1, fun g hg => by cases hg; exact (Array.getElem?_eq_some_iff.1 hm).1⟩, (Nat.le_of_ble_eq_true rfl)⟩, trivial⟩) (vsOk (by kernel_rfl)) ?_
  have hl0 := Reads.len r0
  refine WP_seq (WP_region (WPO_all tt_ok (by kernel_rfl) ?_))
  refine WP_seq (WP_block ?_)
  refine WP_seq (WP_region (WPO_run tt_ok 9 (by kernel_rfl) ?_))
  refine CALL 89 [.s (.int .i64 l.lo), .s (.int .i64 (IntKind.i64.wrap (0 - b.rule))), .s (.int .i64 b.rule)] (.s (.bool (withinD l.lo (IntKind.i64.wrap (0 - b.rule)) b.rule))) [] (by kernel_rfl) (goes_of (by kernel_rfl)) (by kernel_rfl) (by kernel_rfl) (fun _ nV w h => withinD_calls  l.lo (IntKind.i64.wrap (0 - b.rule)) b.rule w  ) ?_
  refine WPO_run tt_ok 10 (by kernel_rfl) ?_
  refine CALL 89 [.s (.int .i64 l.hi), .s (.int .i64 (IntKind.i64.wrap (0 - b.rule))), .s (.int .i64 b.rule)] (.s (.bool (withinD l.hi (IntKind.i64.wrap (0 - b.rule)) b.rule))) [((withinD l.lo (IntKind.i64.wrap (0 - b.rule)) b.rule), true)] (by kernel_rfl) (goes_of (by kernel_rfl)) (by kernel_rfl) (by kernel_rfl) (fun _ nV w h => withinD_calls  l.hi (IntKind.i64.wrap (0 - b.rule)) b.rule w  ) ?_
  refine WPO_all tt_ok (by kernel_rfl) ?_
  refine WP_cond ((withinD l.lo (IntKind.i64.wrap (0 - b.rule)) b.rule) && (withinD l.hi (IntKind.i64.wrap (0 - b.rule)) b.rule)) (by kernel_rfl) (fun hc2 => ?_) (fun hc2 => ?_)
  · have hc2' := hc2; try simp only [Bool.and_eq_true, Bool.or_eq_true, Bool.and_eq_false_iff, Bool.or_eq_false_iff, Bool.not_eq_true', Bool.not_eq_false', decide_eq_true_eq, decide_eq_false_iff_not, beq_iff_eq, beq_eq_false_iff_ne, bne_iff_ne, bne_eq_false_iff_eq, ne_eq] at hc2'
    refine WP_seq (WP_region (WPO_all tt_ok (by kernel_rfl) ?_))
    refine WP_ret ?_
    exact ⟨.s (.int .i64 2), by kernel_rfl, fun nV w' h => ⟨by rw [show levelD b l = 2 from by unfold levelD; simp only [hc2, cond_true, cond_false]]; rfl, h.bel⟩⟩
  have hc2' := hc2; try simp only [Bool.and_eq_true, Bool.or_eq_true, Bool.and_eq_false_iff, Bool.or_eq_false_iff, Bool.not_eq_true', Bool.not_eq_false', decide_eq_true_eq, decide_eq_false_iff_not, beq_iff_eq, beq_eq_false_iff_ne, bne_iff_ne, bne_eq_false_iff_eq, ne_eq] at hc2'
  refine WP_seq (WP_region (WPO_all tt_ok (by kernel_rfl) ?_))
  refine WP_cond ((decide (l.lo ≤ b.rule)) && (decide (l.hi ≥ (IntKind.i64.wrap (0 - b.rule))))) (by kernel_rfl) (fun hc4 => ?_) (fun hc4 => ?_)
  · have hc4' := hc4; try simp only [Bool.and_eq_true, Bool.or_eq_true, Bool.and_eq_false_iff, Bool.or_eq_false_iff, Bool.not_eq_true', Bool.not_eq_false', decide_eq_true_eq, decide_eq_false_iff_not, beq_iff_eq, beq_eq_false_iff_ne, bne_iff_ne, bne_eq_false_iff_eq, ne_eq] at hc4'
    refine WP_seq (WP_region (WPO_all tt_ok (by kernel_rfl) ?_))
    refine WP_ret ?_
    exact ⟨.s (.int .i64 1), by kernel_rfl, fun nV w' h => ⟨by rw [show levelD b l = 1 from by unfold levelD; simp only [hc2, hc4, cond_true, cond_false]]; rfl, h.bel⟩⟩
  have hc4' := hc4; try simp only [Bool.and_eq_true, Bool.or_eq_true, Bool.and_eq_false_iff, Bool.or_eq_false_iff, Bool.not_eq_true', Bool.not_eq_false', decide_eq_true_eq, decide_eq_false_iff_not, beq_iff_eq, beq_eq_false_iff_ne, bne_iff_ne, bne_eq_false_iff_eq, ne_eq] at hc4'
  refine WP_skip ?_
  refine WP_seq (WP_region (WPO_all tt_ok (by kernel_rfl) ?_))
  refine WP_ret ?_
  exact ⟨.s (.int .i64 0), by kernel_rfl, fun nV w' h => ⟨by rw [show levelD b l = 0 from by unfold levelD; simp only [hc2, hc4, cond_true, cond_false]]; rfl, h.bel⟩⟩
def allD (b : DBook) : Int :=
  IntKind.i64.wrap ((IntKind.i64.wrap (1 * 2 ^ (min (b.loads.length : Int).toNat IntKind.i64.bits))) - 1)
theorem allD_calls (g0 : Value) (gm : Nat) (b : DBook) (w : World) (r0 : Reads w g0 3 b.loads encLoad zLoad) (hm : w.heap[gm]? = some (.map (ents (plL b) plKey plVal) (plL b).length)) (hb5 : b.loads.length ≤ 5) : Calls Tryd.prog 96 #[.agg #[g0, iv b.rule, iv b.most, .map (some gm)]] w fun e w' => e = .returned (iv (allD b)) ∧ Below w.heap.size w w' := by
  refine calls_of_WP (cx := cx0 w (vn [g0]) 1) (n := vn [g0]) (vs := [.g [.ref 0, .int .i64 b.rule, .int .i64 b.most, .v (.map (some gm))]]) (hp := [(0, .sl .ro 61 3 b.loads encLoad zLoad), (1, mapF gm (plL b) plKey plVal)]) (nx := 2) tt_ok Tryd.func96 rfl rfl rfl (by kernel_rfl) (HSat_args (vn_one (by simp [r0.one])) (by decide) ⟨⟨⟨fun _ => rfl, by decide, r0⟩, (Nat.le_of_ble_eq_true rfl)⟩, ⟨⟨hm, fun w1 w2 h1 hw => (hw gm rfl).trans h1, fun g hg => by cases hg; exact (Array.getElem?_eq_some_iff.1 hm).1⟩, (Nat.le_of_ble_eq_true rfl)⟩, trivial⟩) (vsOk (by kernel_rfl)) ?_
  have hl0 := Reads.len r0
  refine WP_seq (WP_region (WPO_all tt_ok (by kernel_rfl) ?_))
  refine WP_seq (WP_region (WPO_run tt_ok 4 (by kernel_rfl) ?_))
  refine BIN .shl 3 (.const (.int .i64 1)) (.tmp 6) (.s (.int .i64 1)) (.s (.int .i64 (b.loads.length : Int))) (.s (.int .i64 (IntKind.i64.wrap (1 * 2 ^ (min (b.loads.length : Int).toNat IntKind.i64.bits))))) [] (by kernel_rfl) (by kernel_rfl) (by kernel_rfl) (fun _ => BinOk_shl (by omega)) ?_
  refine WPO_all tt_ok (by kernel_rfl) ?_
  refine WP_ret ?_
  exact ⟨.s (.int .i64 (IntKind.i64.wrap ((IntKind.i64.wrap (1 * 2 ^ (min (b.loads.length : Int).toNat IntKind.i64.bits))) - 1))), by kernel_rfl, fun nV w' h => ⟨by rw [show allD b = (IntKind.i64.wrap ((IntKind.i64.wrap (1 * 2 ^ (min (b.loads.length : Int).toNat IntKind.i64.bits))) - 1)) from rfl]; rfl, h.bel⟩⟩
def weightD_c1 (b : DBook) (set : Int) (k1 : Nat) : Int → Bool := fun v1_1 => decide ((k1 : Int) < (b.loads.length : Int))
def weightD_b1 (b : DBook) (set : Int) (k1 : Nat) : Int → Bd Int Int := fun v1_1 => .go (bif ((IntKind.i64.wrap (BitVec.ofInt IntKind.i64.bits (Int.fdiv set (2 ^ (min (k1 : Int).toNat IntKind.i64.bits))) &&& BitVec.ofInt IntKind.i64.bits 1).toNat) == 1) then IntKind.i64.wrap (v1_1 + (b.loads.getD k1 zLoad).w.hi) else v1_1)
def weightD (b : DBook) (set : Int) : Int :=
  (match loopR (weightD_c1 b set) (weightD_b1 b set) b.loads.length 0 0 with | .brk u1_0 => u1_0 | .ret r => r)
theorem weightD_calls (g0 : Value) (gm : Nat) (b : DBook) (set : Int) (w : World) (r0 : Reads w g0 3 b.loads encLoad zLoad) (hm : w.heap[gm]? = some (.map (ents (plL b) plKey plVal) (plL b).length)) : Calls Tryd.prog 118 #[.agg #[g0, iv b.rule, iv b.most, .map (some gm)], iv set] w fun e w' => e = .returned (iv (weightD b set)) ∧ Below w.heap.size w w' := by
  refine calls_of_WP (cx := cx0 w (vn [g0]) 1) (n := vn [g0]) (vs := [.g [.ref 0, .int .i64 b.rule, .int .i64 b.most, .v (.map (some gm))], .s (.int .i64 set)]) (hp := [(0, .sl .ro 61 3 b.loads encLoad zLoad), (1, mapF gm (plL b) plKey plVal)]) (nx := 2) tt_ok Tryd.func118 rfl rfl rfl (by kernel_rfl) (HSat_args (vn_one (by simp [r0.one])) (by decide) ⟨⟨⟨fun _ => rfl, by decide, r0⟩, (Nat.le_of_ble_eq_true rfl)⟩, ⟨⟨hm, fun w1 w2 h1 hw => (hw gm rfl).trans h1, fun g hg => by cases hg; exact (Array.getElem?_eq_some_iff.1 hm).1⟩, (Nat.le_of_ble_eq_true rfl)⟩, trivial⟩) (vsOk (by kernel_rfl)) ?_
  have hl0 := Reads.len r0
  refine WP_seq (WP_region (WPO_all tt_ok (by kernel_rfl) ?_))
  refine WP_seq (WP_region (WPO_all tt_ok (by kernel_rfl) ?_))
  refine WP_seq (WP_seq (WP_region (WPO_all tt_ok (by kernel_rfl) ?_)))
  refine WP_loopA (ρ := Int) (weightD_c1 b set) (weightD_b1 b set) b.loads.length 0 (fun k : Nat => (k : Int)) (fun (ci : Int) (zz : Int) => ⟨29, [(12, [], .s (.int .i64 ci)), (11, [], .s (.int .i64 (b.loads.length : Int))), (10, [], .s (.ref 0)), (5, [], .s (.int .i64 zz)), (1, [], .s (.int .i64 set))], [(2, .box 94 [.ref 0, .int .i64 b.rule, .int .i64 b.most, .v (.map (some gm))]), (0, .sl .ro 61 3 b.loads encLoad zLoad), (1, mapF gm (plL b) plKey plVal)], 3, []⟩) (fun zz : Int => ⟨29, [(5, [], .s (.int .i64 zz))], [(2, .box 94 [.ref 0, .int .i64 b.rule, .int .i64 b.most, .v (.map (some gm))]), (0, .sl .ro 61 3 b.loads encLoad zLoad), (1, mapF gm (plL b) plKey plVal)], 3, []⟩) (fun k zz => True) trivial ⟨0, rfl, Le_sel (ts := [12, 11, 10, 5, 1]) (ids := [2, 0, 1]) (nx := 3) (by kernel_rfl)⟩ ?_ ?_
  · intro k1 v1_1 hn1 hp1 hi1 Q1 hq1 ho1
    refine WP_seq (WP_region (WPO_all tt_ok (by kernel_rfl) ?_))
    refine WP_seq (WP_cond (decide ((k1 : Int) < (b.loads.length : Int))) (by kernel_rfl) (fun hc1 => ?_) (fun hc1 => ?_))
    rotate_left
    · refine WP_exit ?_
      show Q1 (.exit 0) _
      exact LA_exit hq1 v1_1 (loopR_end hi1 hc1) ⟨k1, hn1, hp1⟩ (Le_sel (ts := [5]) (ids := [2, 0, 1]) (nx := 3) (by kernel_rfl))
    have hc1' := of_decide_eq_true hc1
    have hk1 : k1 < b.loads.length := by omega
    refine WP_skip ?_
    refine WP_seq (WP_block ?_)
    refine WP_seq (WP_region (WPO_run tt_ok 1 (by kernel_rfl) ?_))
    refine IX tt_ok (k1 : Int) b.loads.length [] (by kernel_rfl) (fun hG => ⟨by omega, by omega⟩) ?_
    refine WPO_all tt_ok (by kernel_rfl) ?_
    refine WP_seq (WP_region (WPO_run tt_ok 2 (by kernel_rfl) ?_))
    refine BIN .shr 3 (.tmp 17) (.tmp 18) (.s (.int .i64 set)) (.s (.int .i64 (k1 : Int))) (.s (.int .i64 (Int.fdiv set (2 ^ (min (k1 : Int).toNat IntKind.i64.bits))))) [] (by kernel_rfl) (by kernel_rfl) (by kernel_rfl) (fun _ => BinOk_shr (by omega)) ?_
    refine WPO_all tt_ok (by kernel_rfl) ?_
    refine WP_join ((IntKind.i64.wrap (BitVec.ofInt IntKind.i64.bits (Int.fdiv set (2 ^ (min (k1 : Int).toNat IntKind.i64.bits))) &&& BitVec.ofInt IntKind.i64.bits 1).toNat) == 1) (fun q => ⟨29, [(5, [], .s (.int .i64 (bif q then IntKind.i64.wrap (v1_1 + (b.loads.getD k1 zLoad).w.hi) else v1_1))), (12, [], .s (.int .i64 (k1 : Int))), (11, [], .s (.int .i64 (b.loads.length : Int))), (10, [], .s (.ref 0)), (1, [], .s (.int .i64 set))], [(3, .box 61 [.int .i64 (b.loads.getD k1 zLoad).w.lo, .int .i64 (b.loads.getD k1 zLoad).w.hi, .int .i64 (b.loads.getD k1 zLoad).lanes]), (2, .box 94 [.ref 0, .int .i64 b.rule, .int .i64 b.most, .v (.map (some gm))]), (0, .sl .ro 61 3 b.loads encLoad zLoad), (1, mapF gm (plL b) plKey plVal)], 4, []⟩) (by kernel_rfl) (fun hc3 => ?_) (fun hc3 => ?_) ?_
    · have hc3' := hc3; try simp only [Bool.and_eq_true, Bool.or_eq_true, Bool.and_eq_false_iff, Bool.or_eq_false_iff, Bool.not_eq_true', Bool.not_eq_false', decide_eq_true_eq, decide_eq_false_iff_not, beq_iff_eq, beq_eq_false_iff_ne, bne_iff_ne, bne_eq_false_iff_eq, ne_eq] at hc3'
      refine WP_region (WPO_all tt_ok (by kernel_rfl) ?_)
      exact Le_sel (ts := [5, 12, 11, 10, 1]) (ids := [3, 2, 0, 1]) (nx := 4) (by kernel_rfl)
    · have hc3' := hc3; try simp only [Bool.and_eq_true, Bool.or_eq_true, Bool.and_eq_false_iff, Bool.or_eq_false_iff, Bool.not_eq_true', Bool.not_eq_false', decide_eq_true_eq, decide_eq_false_iff_not, beq_iff_eq, beq_eq_false_iff_ne, bne_iff_ne, bne_eq_false_iff_eq, ne_eq] at hc3'
      refine WP_skip ?_
      exact Le_sel (ts := [5, 12, 11, 10, 1]) (ids := [3, 2, 0, 1]) (nx := 4) (by kernel_rfl)
    refine WP_region (WPO_all tt_ok (by kernel_rfl) ?_)
    show Q1 .normal _
    exact LA_go hq1 (ci := IntKind.i64.wrap ((k1 : Int) + 1)) (bif ((IntKind.i64.wrap (BitVec.ofInt IntKind.i64.bits (Int.fdiv set (2 ^ (min (k1 : Int).toNat IntKind.i64.bits))) &&& BitVec.ofInt IntKind.i64.bits 1).toNat) == 1) then IntKind.i64.wrap (v1_1 + (b.loads.getD k1 zLoad).w.hi) else v1_1) hk1 (by show _ = ((k1 + 1 : Nat) : Int); rw [wrapI (by omega) (by omega)]; omega) (loopR_go hi1 hk1 hc1 (rfl)) trivial (Le_sel (ts := [12, 11, 10, 5, 1]) (ids := [2, 0, 1]) (nx := 3) (by kernel_rfl))
  intro u1_0 hR1 hP1 s' hl
  refine WP_le hl ?_
  clear hl s'
  refine WP_seq (WP_region (WPO_all tt_ok (by kernel_rfl) ?_))
  refine WP_ret ?_
  exact ⟨.s (.int .i64 u1_0), by kernel_rfl, fun nV w' h => ⟨by rw [show weightD b set = u1_0 from by unfold weightD; simp only [hR1, cond_true, cond_false]]; rfl, h.bel⟩⟩
def listedD_c1 (b : DBook) (set : Int) (k1 : Nat) : (List Int) → Bool := fun v1_1 => decide ((k1 : Int) < (b.loads.length : Int))
def listedD_b1 (b : DBook) (set : Int) (k1 : Nat) : (List Int) → Bd (List Int) (List Int) := fun v1_1 => (bif (IntKind.i64.wrap (BitVec.ofInt IntKind.i64.bits (Int.fdiv set (2 ^ (min (k1 : Int).toNat IntKind.i64.bits))) &&& BitVec.ofInt IntKind.i64.bits 1).toNat) == 1 then .go (v1_1 ++ ([(k1 : Int)])) else .go v1_1)
def listedD (b : DBook) (set : Int) : (List Int) :=
  (match loopR (listedD_c1 b set) (listedD_b1 b set) b.loads.length 0 ([]) with | .brk u1_0 => u1_0 | .ret r => r)
theorem listedD_calls (g0 : Value) (gm : Nat) (b : DBook) (set : Int) (w : World) (r0 : Reads w g0 3 b.loads encLoad zLoad) (hm : w.heap[gm]? = some (.map (ents (plL b) plKey plVal) (plL b).length)) (hb5 : b.loads.length ≤ 5) : Calls Tryd.prog 102 #[.agg #[g0, iv b.rule, iv b.most, .map (some gm)], iv set] w fun e w' => ∃ v0, e = .returned (v0) ∧ Below w.heap.size w w' ∧ Reads w' v0 1 (listedD b set) encI 0 ∧ (∀ g, vblk v0 = some g → w.heap.size ≤ g ∧ g < w'.heap.size) := by
  refine calls_of_WP (cx := cx0 w (vn [g0]) 1) (n := vn [g0]) (vs := [.g [.ref 0, .int .i64 b.rule, .int .i64 b.most, .v (.map (some gm))], .s (.int .i64 set)]) (hp := [(0, .sl .ro 61 3 b.loads encLoad zLoad), (1, mapF gm (plL b) plKey plVal)]) (nx := 2) tt_ok Tryd.func102 rfl rfl rfl (by kernel_rfl) (HSat_args (vn_one (by simp [r0.one])) (by decide) ⟨⟨⟨fun _ => rfl, by decide, r0⟩, (Nat.le_of_ble_eq_true rfl)⟩, ⟨⟨hm, fun w1 w2 h1 hw => (hw gm rfl).trans h1, fun g hg => by cases hg; exact (Array.getElem?_eq_some_iff.1 hm).1⟩, (Nat.le_of_ble_eq_true rfl)⟩, trivial⟩) (vsOk (by kernel_rfl)) ?_
  have hl0 := Reads.len r0
  refine WP_seq (WP_region (WPO_all tt_ok (by kernel_rfl) ?_))
  refine WP_seq (WP_region (WPO_all tt_ok (by kernel_rfl) ?_))
  refine WP_seq (WP_seq (WP_region (WPO_all tt_ok (by kernel_rfl) ?_)))
  refine WP_loopA (ρ := (List Int)) (listedD_c1 b set) (listedD_b1 b set) b.loads.length ([]) (fun k : Nat => (k : Int)) (fun (ci : Int) (zz : (List Int)) => ⟨30, [(11, [], .s (.int .i64 ci)), (10, [], .s (.int .i64 (b.loads.length : Int))), (5, [], .s (.ref 3)), (1, [], .s (.int .i64 set))], [(3, .sl .own 3 1 zz encI 0), (2, .box 94 [.ref 0, .int .i64 b.rule, .int .i64 b.most, .v (.map (some gm))]), (0, .sl .ro 61 3 b.loads encLoad zLoad), (1, mapF gm (plL b) plKey plVal)], 4, []⟩) (fun zz : (List Int) => ⟨30, [(5, [], .s (.ref 3))], [(3, .sl .own 3 1 zz encI 0), (2, .box 94 [.ref 0, .int .i64 b.rule, .int .i64 b.most, .v (.map (some gm))]), (0, .sl .ro 61 3 b.loads encLoad zLoad), (1, mapF gm (plL b) plKey plVal)], 4, []⟩) (fun (k1 : Nat) (zz : (List Int)) => zz.length ≤ k1) (by simp) ⟨0, rfl, Le.trans (Le_nilT [5] 3 1 encI 0 (fun _ => rfl)) (Le_sel (ts := [11, 10, 5, 1]) (ids := [3, 2, 0, 1]) (nx := 4) (by kernel_rfl))⟩ ?_ ?_
  · intro k1 v1_1 hn1 hp1 hi1 Q1 hq1 ho1
    replace hp1 : v1_1.length ≤ k1 := hp1
    refine WP_seq (WP_region (WPO_all tt_ok (by kernel_rfl) ?_))
    refine WP_seq (WP_cond (decide ((k1 : Int) < (b.loads.length : Int))) (by kernel_rfl) (fun hc1 => ?_) (fun hc1 => ?_))
    rotate_left
    · refine WP_exit ?_
      show Q1 (.exit 0) _
      exact LA_exit hq1 v1_1 (loopR_end hi1 hc1) ⟨k1, hn1, hp1⟩ (Le_sel (ts := [5]) (ids := [3, 2, 0, 1]) (nx := 4) (by kernel_rfl))
    have hc1' := of_decide_eq_true hc1
    have hk1 : k1 < b.loads.length := by omega
    refine WP_skip ?_
    refine WP_seq (WP_block ?_)
    refine WP_seq (WP_region (WPO_all tt_ok (by kernel_rfl) ?_))
    refine WP_seq (WP_region (WPO_run tt_ok 2 (by kernel_rfl) ?_))
    refine BIN .shr 3 (.tmp 14) (.tmp 15) (.s (.int .i64 set)) (.s (.int .i64 (k1 : Int))) (.s (.int .i64 (Int.fdiv set (2 ^ (min (k1 : Int).toNat IntKind.i64.bits))))) [] (by kernel_rfl) (by kernel_rfl) (by kernel_rfl) (fun _ => BinOk_shr (by omega)) ?_
    refine WPO_all tt_ok (by kernel_rfl) ?_
    refine WP_cond ((IntKind.i64.wrap (BitVec.ofInt IntKind.i64.bits (Int.fdiv set (2 ^ (min (k1 : Int).toNat IntKind.i64.bits))) &&& BitVec.ofInt IntKind.i64.bits 1).toNat) == 1) (by kernel_rfl) (fun hc3 => ?_) (fun hc3 => ?_)
    · have hc3' := hc3; try simp only [Bool.and_eq_true, Bool.or_eq_true, Bool.and_eq_false_iff, Bool.or_eq_false_iff, Bool.not_eq_true', Bool.not_eq_false', decide_eq_true_eq, decide_eq_false_iff_not, beq_iff_eq, beq_eq_false_iff_ne, bne_iff_ne, bne_eq_false_iff_eq, ne_eq] at hc3'
      refine WP_region (WPO_run tt_ok 2 (by kernel_rfl) ?_)
      refine LIT tt_ok (by kernel_rfl) ?_
      refine LITSL 4 3 1 1 [.int .i64 (k1 : Int)] [(k1 : Int)] encI 0 (by kernel_rfl) rfl (fun _ => rfl) (fun n => rfl) ?_
      refine APP tt_ok (.s (.ref 3)) (.s (.ref 4)) 33 3 (some 22) 1 v1_1 ([(k1 : Int)]) encI 0 (by kernel_rfl) (by kernel_rfl) (by kernel_rfl) (by kernel_rfl) (.inr (.inl ⟨3, rfl, (by kernel_rfl)⟩)) (.inr ⟨4, .own, rfl, (by kernel_rfl), (by simp only [List.length_cons, List.length_nil]; omega)⟩) (by simp) (fun y => rfl) (fun y => List.all_eq_true.1 rfl) (fun i hi => (by have hby : (tyL tt 3).map (·.bytes) = some 8 := (by kernel_rfl); rw [hi] at hby; simp only [Option.map_some, Option.some.injEq] at hby; rw [hby]; simp only [List.length_append, List.length_cons, List.length_nil]; omega)) ?_
      refine WPO_all tt_ok (by kernel_rfl) ?_
      refine WP_region (WPO_all tt_ok (by kernel_rfl) ?_)
      show Q1 .normal _
      exact LA_go hq1 (ci := IntKind.i64.wrap ((k1 : Int) + 1)) (v1_1 ++ ([(k1 : Int)])) hk1 (by show _ = ((k1 + 1 : Nat) : Int); rw [wrapI (by omega) (by omega)]; omega) (loopR_go hi1 hk1 hc1 (by unfold listedD_b1; simp only [hc3, cond_true, cond_false])) (by simp only [List.length_append, List.length_cons, List.length_nil]; omega) (Le_ren [(3, 5)] ⟨by kernel_rfl, by kernel_rfl, by kernel_rfl, by kernel_rfl, trivial⟩ ⟨by kernel_rfl, rfl, by kernel_rfl, by kernel_rfl, rfl, by kernel_rfl, by kernel_rfl, rfl, by kernel_rfl, by kernel_rfl, rfl, by kernel_rfl, trivial⟩ (by kernel_rfl) (by kernel_rfl) (rnm_id (m := 1) (by kernel_rfl)) (by show 1 ≤ 4; decide) (by kernel_rfl) (by kernel_rfl))
    have hc3' := hc3; try simp only [Bool.and_eq_true, Bool.or_eq_true, Bool.and_eq_false_iff, Bool.or_eq_false_iff, Bool.not_eq_true', Bool.not_eq_false', decide_eq_true_eq, decide_eq_false_iff_not, beq_iff_eq, beq_eq_false_iff_ne, bne_iff_ne, bne_eq_false_iff_eq, ne_eq] at hc3'
    refine WP_skip ?_
    refine WP_region (WPO_all tt_ok (by kernel_rfl) ?_)
    show Q1 .normal _
    exact LA_go hq1 (ci := IntKind.i64.wrap ((k1 : Int) + 1)) v1_1 hk1 (by show _ = ((k1 + 1 : Nat) : Int); rw [wrapI (by omega) (by omega)]; omega) (loopR_go hi1 hk1 hc1 (by unfold listedD_b1; simp only [hc3, cond_true, cond_false])) (by omega) (Le_sel (ts := [11, 10, 5, 1]) (ids := [3, 2, 0, 1]) (nx := 4) (by kernel_rfl))
  intro u1_0 hR1 hP1 s' hl
  obtain ⟨kP1, hkP1, hpP1⟩ := hP1
  replace hpP1 : u1_0.length ≤ kP1 := hpP1
  refine WP_le hl ?_
  clear hl s'
  refine WP_seq (WP_region (WPO_run tt_ok 5 (by kernel_rfl) ?_))
  refine SLCF tt_ok 3 3 1 u1_0 encI 0 (some 29) (by kernel_rfl) (by kernel_rfl) (fun _ => (by kernel_rfl)) (fun sv1 => ?_)
  refine WPO_all tt_ok (by kernel_rfl) ?_
  refine WP_ret ?_
  exact ⟨.s (.v sv1), by kernel_rfl, fun nV w' h => ⟨sv1, rfl, h.bel, by rw [show listedD b set = u1_0 from by unfold listedD; simp only [hR1, cond_true, cond_false]]; exact (slE_lt (id := 4) (v := sv1) (sz := 1) (li := u1_0) (enc := encI) (z := 0) h (by kernel_rfl)).1, (slE_lt (id := 4) (v := sv1) (sz := 1) (li := u1_0) (enc := encI) (z := 0) h (by kernel_rfl)).2⟩⟩
def nanD (x : Int) : Bool :=
  x != x
theorem nanD_calls  (x : Int) (w : World)   : Calls Tryd.prog 129 #[iv x] w fun e w' => e = .returned (.bool (nanD x)) ∧ Below w.heap.size w w' := by
  refine calls_of_WP (cx := cx0 w Eng.n0 0) (n := Eng.n0) (vs := [.s (.int .i64 x)]) (hp := []) (nx := 0) tt_ok Tryd.func129 rfl rfl rfl (by kernel_rfl) (HSat0 _ _ _ _ _ _ (fun _ => rfl) (Nat.le_refl _)) (vsOk (by kernel_rfl)) ?_
  refine WP_seq (WP_region (WPO_all tt_ok (by kernel_rfl) ?_))
  refine WP_seq (WP_region (WPO_all tt_ok (by kernel_rfl) ?_))
  refine WP_ret ?_
  exact ⟨.s (.bool (x != x)), by kernel_rfl, fun nV w' h => ⟨by rw [show nanD x = (x != x) from rfl]; rfl, h.bel⟩⟩
def cmpD (x : Int) (y : Int) : Int :=
  (bif (nanD x) then (bif (nanD y) then 0 else -1) else (bif (nanD y) then 1 else (bif decide (x < y) then -1 else (bif decide (x > y) then 1 else 0))))
theorem cmpD_calls  (x : Int) (y : Int) (w : World)   : Calls Tryd.prog 128 #[iv x, iv y] w fun e w' => e = .returned (iv (cmpD x y)) ∧ Below w.heap.size w w' := by
  refine calls_of_WP (cx := cx0 w Eng.n0 0) (n := Eng.n0) (vs := [.s (.int .i64 x), .s (.int .i64 y)]) (hp := []) (nx := 0) tt_ok Tryd.func128 rfl rfl rfl (by kernel_rfl) (HSat0 _ _ _ _ _ _ (fun _ => rfl) (Nat.le_refl _)) (vsOk (by kernel_rfl)) ?_
  refine WP_seq (WP_region (WPO_all tt_ok (by kernel_rfl) ?_))
  refine WP_seq (WP_region (WPO_run tt_ok 1 (by kernel_rfl) ?_))
  refine CALL 129 [.s (.int .i64 x)] (.s (.bool (nanD x))) [] (by kernel_rfl) (goes_of (by kernel_rfl)) (by kernel_rfl) (by kernel_rfl) (fun _ nV w h => nanD_calls  x w  ) ?_
  refine WPO_all tt_ok (by kernel_rfl) ?_
  refine WP_seq (WP_region (WPO_run tt_ok 1 (by kernel_rfl) ?_))
  refine CALL 129 [.s (.int .i64 y)] (.s (.bool (nanD y))) [] (by kernel_rfl) (goes_of (by kernel_rfl)) (by kernel_rfl) (by kernel_rfl) (fun _ nV w h => nanD_calls  y w  ) ?_
  refine WPO_all tt_ok (by kernel_rfl) ?_
  refine WP_seq (WP_seq (WP_region (WPO_all tt_ok (by kernel_rfl) ?_)))
  refine WP_cond ((nanD x)) (by kernel_rfl) (fun hc2 => ?_) (fun hc2 => ?_)
  · refine WP_seq (WP_seq (WP_region (WPO_all tt_ok (by kernel_rfl) ?_)))
    refine WP_cond ((nanD y)) (by kernel_rfl) (fun hc4 => ?_) (fun hc4 => ?_)
    · refine WP_seq (WP_region (WPO_all tt_ok (by kernel_rfl) ?_))
      refine WP_ret ?_
      exact ⟨.s (.int .i64 0), by kernel_rfl, fun nV w' h => ⟨by rw [show cmpD x y = 0 from by unfold cmpD; simp only [hc2, hc4, cond_true, cond_false]]; rfl, h.bel⟩⟩
    refine WP_skip ?_
    refine WP_seq (WP_region (WPO_all tt_ok (by kernel_rfl) ?_))
    refine WP_ret ?_
    exact ⟨.s (.int .i64 (-1)), by kernel_rfl, fun nV w' h => ⟨by rw [show cmpD x y = (-1) from by unfold cmpD; simp only [hc2, hc4, cond_true, cond_false]]; rfl, h.bel⟩⟩
  refine WP_skip ?_
  refine WP_seq (WP_seq (WP_region (WPO_all tt_ok (by kernel_rfl) ?_)))
  refine WP_cond ((nanD y)) (by kernel_rfl) (fun hc6 => ?_) (fun hc6 => ?_)
  · refine WP_seq (WP_region (WPO_all tt_ok (by kernel_rfl) ?_))
    refine WP_ret ?_
    exact ⟨.s (.int .i64 1), by kernel_rfl, fun nV w' h => ⟨by rw [show cmpD x y = 1 from by unfold cmpD; simp only [hc2, hc6, cond_true, cond_false]]; rfl, h.bel⟩⟩
  refine WP_skip ?_
  refine WP_seq (WP_seq (WP_region (WPO_all tt_ok (by kernel_rfl) ?_)))
  refine WP_cond (decide (x < y)) (by kernel_rfl) (fun hc8 => ?_) (fun hc8 => ?_)
  · have hc8' := of_decide_eq_true hc8
    refine WP_seq (WP_region (WPO_all tt_ok (by kernel_rfl) ?_))
    refine WP_ret ?_
    exact ⟨.s (.int .i64 (-1)), by kernel_rfl, fun nV w' h => ⟨by rw [show cmpD x y = (-1) from by unfold cmpD; simp only [hc2, hc6, hc8, cond_true, cond_false]]; rfl, h.bel⟩⟩
  have hc8' := of_decide_eq_false hc8
  refine WP_skip ?_
  refine WP_seq (WP_seq (WP_region (WPO_all tt_ok (by kernel_rfl) ?_)))
  refine WP_cond (decide (x > y)) (by kernel_rfl) (fun hc10 => ?_) (fun hc10 => ?_)
  · have hc10' := of_decide_eq_true hc10
    refine WP_seq (WP_region (WPO_all tt_ok (by kernel_rfl) ?_))
    refine WP_ret ?_
    exact ⟨.s (.int .i64 1), by kernel_rfl, fun nV w' h => ⟨by rw [show cmpD x y = 1 from by unfold cmpD; simp only [hc2, hc6, hc8, hc10, cond_true, cond_false]]; rfl, h.bel⟩⟩
  have hc10' := of_decide_eq_false hc10
  refine WP_skip ?_
  refine WP_seq (WP_region (WPO_all tt_ok (by kernel_rfl) ?_))
  refine WP_ret ?_
  exact ⟨.s (.int .i64 0), by kernel_rfl, fun nV w' h => ⟨by rw [show cmpD x y = 0 from by unfold cmpD; simp only [hc2, hc6, hc8, hc10, cond_true, cond_false]]; rfl, h.bel⟩⟩
def compareD_c1 (l : List Int) (m : List Int) (k1 : Nat) : Unit → Bool := fun _ => decide ((k1 : Int) < (l.length : Int))
def compareD_b1 (l : List Int) (m : List Int) (k1 : Nat) : Unit → Bd Unit Int := fun _ => (bif decide ((k1 : Int) ≥ (m.length : Int)) then .ret 1 else (bif (cmpD (l.getD k1 0) (m.getD k1 0)) != 0 then .ret (cmpD (l.getD k1 0) (m.getD k1 0)) else .go ()))
def compareD (l : List Int) (m : List Int) : Int :=
  (match loopR (compareD_c1 l m) (compareD_b1 l m) l.length 0 () with | .brk () => (bif decide ((l.length : Int) < (m.length : Int)) then -1 else 0) | .ret r => r)
theorem compareD_calls (g0 g1 : Value) (l : List Int) (m : List Int) (w : World) (r0 : Reads w g0 1 l encI 0) (r1 : Reads w g1 1 m encI 0)  : Calls Tryd.prog 127 #[g0, g1] w fun e w' => e = .returned (iv (compareD l m)) ∧ Below w.heap.size w w' := by
  refine calls_of_WP (cx := cx0 w (vn [g0, g1]) 2) (n := vn [g0, g1]) (vs := [.s (.ref 0), .s (.ref 1)]) (hp := [(0, .sl .ro 3 1 l encI 0), (1, .sl .ro 3 1 m encI 0)]) (nx := 2) tt_ok Tryd.func127 rfl rfl rfl (by kernel_rfl) (HSat_args (vn_one (by simp [r0.one, r1.one])) (Nat.le_refl _) ⟨⟨⟨fun _ => rfl, by decide, r0⟩, (Nat.le_of_ble_eq_true rfl)⟩, ⟨⟨fun _ => rfl, by decide, r1⟩, (Nat.le_of_ble_eq_true rfl)⟩, trivial⟩) (vsOk (by kernel_rfl)) ?_
  have hl0 := Reads.len r0
  have hl1 := Reads.len r1
  refine WP_seq (WP_region (WPO_all tt_ok (by kernel_rfl) ?_))
  refine WP_seq (WP_seq (WP_region (WPO_all tt_ok (by kernel_rfl) ?_)))
  refine WP_loopA (ρ := Int) (compareD_c1 l m) (compareD_b1 l m) l.length () (fun k : Nat => (k : Int)) (fun (ci : Int) (zz : Unit) => ⟨36, [(11, [], .s (.int .i64 ci)), (10, [], .s (.int .i64 (l.length : Int))), (9, [], .s (.ref 0)), (0, [], .s (.ref 0)), (1, [], .s (.ref 1))], [(0, .sl .ro 3 1 l encI 0), (1, .sl .ro 3 1 m encI 0)], 2, []⟩) (fun zz : Unit => ⟨36, [(0, [], .s (.ref 0)), (1, [], .s (.ref 1))], [(0, .sl .ro 3 1 l encI 0), (1, .sl .ro 3 1 m encI 0)], 2, []⟩) (fun k zz => True) trivial ⟨0, rfl, Le_sel (ts := [11, 10, 9, 0, 1]) (ids := [0, 1]) (nx := 2) (by kernel_rfl)⟩ ?_ ?_
  · intro k1 zz hn1 hp1 hi1 Q1 hq1 ho1
    refine WP_seq (WP_region (WPO_all tt_ok (by kernel_rfl) ?_))
    refine WP_seq (WP_cond (decide ((k1 : Int) < (l.length : Int))) (by kernel_rfl) (fun hc1 => ?_) (fun hc1 => ?_))
    rotate_left
    · refine WP_exit ?_
      show Q1 (.exit 0) _
      exact LA_exit hq1 () (loopR_end hi1 hc1) ⟨k1, hn1, hp1⟩ (Le_sel (ts := [0, 1]) (ids := [0, 1]) (nx := 2) (by kernel_rfl))
    have hc1' := of_decide_eq_true hc1
    have hk1 : k1 < l.length := by omega
    refine WP_skip ?_
    refine WP_seq (WP_block ?_)
    refine WP_seq (WP_region (WPO_run tt_ok 1 (by kernel_rfl) ?_))
    refine IX tt_ok (k1 : Int) l.length [] (by kernel_rfl) (fun hG => ⟨by omega, by omega⟩) ?_
    refine WPO_all tt_ok (by kernel_rfl) ?_
    refine WP_seq (WP_seq (WP_region (WPO_all tt_ok (by kernel_rfl) ?_)))
    refine WP_cond (decide ((k1 : Int) ≥ (m.length : Int))) (by kernel_rfl) (fun hc3 => ?_) (fun hc3 => ?_)
    · have hc3' := of_decide_eq_true hc3
      refine WP_seq (WP_region (WPO_all tt_ok (by kernel_rfl) ?_))
      refine WP_ret ?_
      show Q1 .ret _
      refine LA_ret hq1 ?_
      have he4 := loopR_ret (r := 1) hi1 hk1 hc1 (by unfold compareD_b1; simp only [hc3, cond_true, cond_false])
      exact ⟨.s (.int .i64 1), by kernel_rfl, fun nV w' h => ⟨by rw [show compareD l m = 1 from by unfold compareD; simp only [he4, cond_true, cond_false]]; rfl, h.bel⟩⟩
    have hc3' := of_decide_eq_false hc3
    refine WP_skip ?_
    refine WP_seq (WP_region (WPO_run tt_ok 2 (by kernel_rfl) ?_))
    refine IX tt_ok (k1 : Int) m.length [] (by kernel_rfl) (fun hG => ⟨by omega, by omega⟩) ?_
    refine WPO_all tt_ok (by kernel_rfl) ?_
    refine WP_seq (WP_region (WPO_run tt_ok 2 (by kernel_rfl) ?_))
    refine CALL 128 [.s (.int .i64 (l.getD k1 0)), .s (.int .i64 (m.getD k1 0))] (.s (.int .i64 (cmpD (l.getD k1 0) (m.getD k1 0)))) [] (by kernel_rfl) (goes_of (by kernel_rfl)) (by kernel_rfl) (by kernel_rfl) (fun _ nV w h => cmpD_calls  (l.getD k1 0) (m.getD k1 0) w  ) ?_
    refine WPO_all tt_ok (by kernel_rfl) ?_
    refine WP_seq (WP_region (WPO_all tt_ok (by kernel_rfl) ?_))
    refine WP_cond ((cmpD (l.getD k1 0) (m.getD k1 0)) != 0) (by kernel_rfl) (fun hc6 => ?_) (fun hc6 => ?_)
    · have hc6' := hc6; try simp only [Bool.and_eq_true, Bool.or_eq_true, Bool.and_eq_false_iff, Bool.or_eq_false_iff, Bool.not_eq_true', Bool.not_eq_false', decide_eq_true_eq, decide_eq_false_iff_not, beq_iff_eq, beq_eq_false_iff_ne, bne_iff_ne, bne_eq_false_iff_eq, ne_eq] at hc6'
      refine WP_seq (WP_region (WPO_all tt_ok (by kernel_rfl) ?_))
      refine WP_ret ?_
      show Q1 .ret _
      refine LA_ret hq1 ?_
      have he7 := loopR_ret (r := (cmpD (l.getD k1 0) (m.getD k1 0))) hi1 hk1 hc1 (by unfold compareD_b1; simp only [hc3, hc6, cond_true, cond_false])
      exact ⟨.s (.int .i64 (cmpD (l.getD k1 0) (m.getD k1 0))), by kernel_rfl, fun nV w' h => ⟨by rw [show compareD l m = (cmpD (l.getD k1 0) (m.getD k1 0)) from by unfold compareD; simp only [he7, cond_true, cond_false]]; rfl, h.bel⟩⟩
    have hc6' := hc6; try simp only [Bool.and_eq_true, Bool.or_eq_true, Bool.and_eq_false_iff, Bool.or_eq_false_iff, Bool.not_eq_true', Bool.not_eq_false', decide_eq_true_eq, decide_eq_false_iff_not, beq_iff_eq, beq_eq_false_iff_ne, bne_iff_ne, bne_eq_false_iff_eq, ne_eq] at hc6'
    refine WP_skip ?_
    refine WP_region (WPO_all tt_ok (by kernel_rfl) ?_)
    show Q1 .normal _
    exact LA_go hq1 (ci := IntKind.i64.wrap ((k1 : Int) + 1)) () hk1 (by show _ = ((k1 + 1 : Nat) : Int); rw [wrapI (by omega) (by omega)]; omega) (loopR_go hi1 hk1 hc1 (by unfold compareD_b1; simp only [hc3, hc6, cond_true, cond_false])) trivial (Le_sel (ts := [11, 10, 9, 0, 1]) (ids := [0, 1]) (nx := 2) (by kernel_rfl))
  intro zz hR1 hP1 s' hl
  refine WP_le hl ?_
  clear hl s'
  refine WP_seq (WP_seq (WP_region (WPO_all tt_ok (by kernel_rfl) ?_)))
  refine WP_cond (decide ((l.length : Int) < (m.length : Int))) (by kernel_rfl) (fun hc9 => ?_) (fun hc9 => ?_)
  · have hc9' := of_decide_eq_true hc9
    refine WP_seq (WP_region (WPO_all tt_ok (by kernel_rfl) ?_))
    refine WP_ret ?_
    exact ⟨.s (.int .i64 (-1)), by kernel_rfl, fun nV w' h => ⟨by rw [show compareD l m = (-1) from by unfold compareD; simp only [hR1, hc9, cond_true, cond_false]]; rfl, h.bel⟩⟩
  have hc9' := of_decide_eq_false hc9
  refine WP_skip ?_
  refine WP_seq (WP_region (WPO_all tt_ok (by kernel_rfl) ?_))
  refine WP_ret ?_
  exact ⟨.s (.int .i64 0), by kernel_rfl, fun nV w' h => ⟨by rw [show compareD l m = 0 from by unfold compareD; simp only [hR1, hc9, cond_true, cond_false]]; rfl, h.bel⟩⟩
def longerD (l : List Int) (m : List Int) : Bool :=
  (decide ((l.length : Int) > (m.length : Int))) || (((l.length : Int) == (m.length : Int)) && (decide ((compareD l m) < 0)))
theorem longerD_calls (g0 g1 : Value) (l : List Int) (m : List Int) (w : World) (r0 : Reads w g0 1 l encI 0) (r1 : Reads w g1 1 m encI 0)  : Calls Tryd.prog 126 #[g0, g1] w fun e w' => e = .returned (.bool (longerD l m)) ∧ Below w.heap.size w w' := by
  refine calls_of_WP (cx := cx0 w (vn [g0, g1]) 2) (n := vn [g0, g1]) (vs := [.s (.ref 0), .s (.ref 1)]) (hp := [(0, .sl .ro 3 1 l encI 0), (1, .sl .ro 3 1 m encI 0)]) (nx := 2) tt_ok Tryd.func126 rfl rfl rfl (by kernel_rfl) (HSat_args (vn_one (by simp [r0.one, r1.one])) (Nat.le_refl _) ⟨⟨⟨fun _ => rfl, by decide, r0⟩, (Nat.le_of_ble_eq_true rfl)⟩, ⟨⟨fun _ => rfl, by decide, r1⟩, (Nat.le_of_ble_eq_true rfl)⟩, trivial⟩) (vsOk (by kernel_rfl)) ?_
  have hl0 := Reads.len r0
  have hl1 := Reads.len r1
  refine WP_seq (WP_region (WPO_all tt_ok (by kernel_rfl) ?_))
  refine WP_seq (WP_region (WPO_run tt_ok 14 (by kernel_rfl) ?_))
  refine CALL 127 [.s (.ref 0), .s (.ref 1)] (.s (.int .i64 (compareD l m))) [((l.length : Int) == (m.length : Int), true), (decide ((l.length : Int) > (m.length : Int)), false)] (by kernel_rfl) (goes_of (by kernel_rfl)) (by kernel_rfl) (by kernel_rfl) (fun _ nV w h => compareD_calls (nV 0) (nV 1) l m w (h.reads (id := 0) (kd := .ro) (e := 3) (by kernel_rfl)) (h.reads (id := 1) (kd := .ro) (e := 3) (by kernel_rfl)) ) ?_
  refine WPO_all tt_ok (by kernel_rfl) ?_
  refine WP_ret ?_
  exact ⟨.s (.bool ((decide ((l.length : Int) > (m.length : Int))) || (((l.length : Int) == (m.length : Int)) && (decide ((compareD l m) < 0))))), by kernel_rfl, fun nV w' h => ⟨by rw [show longerD l m = ((decide ((l.length : Int) > (m.length : Int))) || (((l.length : Int) == (m.length : Int)) && (decide ((compareD l m) < 0)))) from rfl]; rfl, h.bel⟩⟩
def greatestD_c1 (first : Int) (l : List Int) (k1 : Nat) : Int → Bool := fun v1_1 => decide ((k1 : Int) < (l.length : Int))
def greatestD_b1 (first : Int) (l : List Int) (k1 : Nat) : Int → Bd Int Int := fun v1_1 => .go (mx v1_1 (l.getD k1 0))
def greatestD (first : Int) (l : List Int) : Int :=
  (match loopR (greatestD_c1 first l) (greatestD_b1 first l) l.length 0 first with | .brk u1_0 => u1_0 | .ret r => r)
theorem greatestD_calls (g0 : Value) (first : Int) (l : List Int) (w : World) (r0 : Reads w g0 1 l encI 0)  : Calls Tryd.prog 104 #[iv first, g0] w fun e w' => e = .returned (iv (greatestD first l)) ∧ Below w.heap.size w w' := by
  refine calls_of_WP (cx := cx0 w (vn [g0]) 1) (n := vn [g0]) (vs := [.s (.int .i64 first), .s (.ref 0)]) (hp := [(0, .sl .ro 3 1 l encI 0)]) (nx := 1) tt_ok Tryd.func104 rfl rfl rfl (by kernel_rfl) (HSat_args (vn_one (by simp [r0.one])) (Nat.le_refl _) ⟨⟨⟨fun _ => rfl, by decide, r0⟩, (Nat.le_of_ble_eq_true rfl)⟩, trivial⟩) (vsOk (by kernel_rfl)) ?_
  have hl0 := Reads.len r0
  refine WP_seq (WP_region (WPO_all tt_ok (by kernel_rfl) ?_))
  refine WP_seq (WP_seq (WP_region (WPO_all tt_ok (by kernel_rfl) ?_)))
  refine WP_loopA (ρ := Int) (greatestD_c1 first l) (greatestD_b1 first l) l.length first (fun k : Nat => (k : Int)) (fun (ci : Int) (zz : Int) => ⟨18, [(9, [], .s (.int .i64 ci)), (8, [], .s (.int .i64 (l.length : Int))), (7, [], .s (.ref 0)), (0, [], .s (.int .i64 zz))], [(0, .sl .ro 3 1 l encI 0)], 1, []⟩) (fun zz : Int => ⟨18, [(0, [], .s (.int .i64 zz))], [(0, .sl .ro 3 1 l encI 0)], 1, []⟩) (fun k zz => True) trivial ⟨0, rfl, Le_sel (ts := [9, 8, 7, 0]) (ids := [0]) (nx := 1) (by kernel_rfl)⟩ ?_ ?_
  · intro k1 v1_1 hn1 hp1 hi1 Q1 hq1 ho1
    refine WP_seq (WP_region (WPO_all tt_ok (by kernel_rfl) ?_))
    refine WP_seq (WP_cond (decide ((k1 : Int) < (l.length : Int))) (by kernel_rfl) (fun hc1 => ?_) (fun hc1 => ?_))
    rotate_left
    · refine WP_exit ?_
      show Q1 (.exit 0) _
      exact LA_exit hq1 v1_1 (loopR_end hi1 hc1) ⟨k1, hn1, hp1⟩ (Le_sel (ts := [0]) (ids := [0]) (nx := 1) (by kernel_rfl))
    have hc1' := of_decide_eq_true hc1
    have hk1 : k1 < l.length := by omega
    refine WP_skip ?_
    refine WP_seq (WP_block ?_)
    refine WP_seq (WP_region (IX tt_ok (k1 : Int) l.length [] (by kernel_rfl) (fun hG => ⟨by omega, by omega⟩) ?_))
    refine WPO_all tt_ok (by kernel_rfl) ?_
    refine WP_region (WPO_all tt_ok (by kernel_rfl) ?_)
    refine WP_region (WPO_all tt_ok (by kernel_rfl) ?_)
    show Q1 .normal _
    exact LA_go hq1 (ci := IntKind.i64.wrap ((k1 : Int) + 1)) (mx v1_1 (l.getD k1 0)) hk1 (by show _ = ((k1 + 1 : Nat) : Int); rw [wrapI (by omega) (by omega)]; omega) (loopR_go hi1 hk1 hc1 (rfl)) trivial (Le_sel (ts := [9, 8, 7, 0]) (ids := [0]) (nx := 1) (by kernel_rfl))
  intro u1_0 hR1 hP1 s' hl
  refine WP_le hl ?_
  clear hl s'
  refine WP_seq (WP_region (WPO_all tt_ok (by kernel_rfl) ?_))
  refine WP_ret ?_
  exact ⟨.s (.int .i64 u1_0), by kernel_rfl, fun nV w' h => ⟨by rw [show greatestD first l = u1_0 from by unfold greatestD; simp only [hR1, cond_true, cond_false]]; rfl, h.bel⟩⟩
end Go.Proofs.YthfnedbpmdkdjaaDoor.D
namespace Go.Proofs.YthfnedbpmdkdjaaDoor.D
open Go Go.RowKit Go.Proofs.YthfnedbpmdkdjaaDoor.Eng Go.Proofs.YthfnedbpmdkdjaaDoor.Cm
set_option linter.unusedVariables false
set_option linter.unusedSimpArgs false
set_option linter.unusedSectionVars false
def NobodyAt (w : World) : Prop := w.heap[1]? = some (.cells #[iv (-1), iv 0] 65 (0, 0))
def openedD_c2 (b : DBook) (k1 : Nat) (v1_1 : List Pl) (k2 : Nat) : (List Pl) → Bool := fun v2_1 => decide ((k2 : Int) < 3)
def openedD_b2 (b : DBook) (k1 : Nat) (v1_1 : List Pl) (k2 : Nat) : (List Pl) → Bd (List Pl) (List Pl) := fun v2_1 => .go (v2_1 ++ [(⟨(k1 : Int), (k2 : Int), (IntKind.i64.wrap (BitVec.ofInt IntKind.i64.bits (Int.fdiv (b.loads.getD k1 zLoad).lanes (2 ^ (min (k2 : Int).toNat IntKind.i64.bits))) &&& BitVec.ofInt IntKind.i64.bits 1).toNat) == 1⟩ : Pl)])
def openedD_c1 (b : DBook) (k1 : Nat) : (List Pl) → Bool := fun v1_1 => decide ((k1 : Int) < (b.loads.length : Int))
def openedD_b1 (b : DBook) (k1 : Nat) : (List Pl) → Bd (List Pl) (List Pl) := fun v1_1 => (match loopR (openedD_c2 b k1 v1_1) (openedD_b2 b k1 v1_1) 3 0 v1_1 with | .brk u2_0 => .go u2_0 | .ret r => .ret r)
def openedD (b : DBook) : List Pl :=
  (match loopR (openedD_c1 b) (openedD_b1 b) b.loads.length 0 (([] : List Pl) ++ [(⟨-1, 0, false⟩ : Pl)]) with | .brk u1_0 => u1_0 | .ret r => r)
theorem openedD_calls (g0 : Value) (b : DBook) (w : World) (r0 : Reads w g0 3 b.loads encLoad zLoad) (hnb : NobodyAt w) (hb5 : b.loads.length ≤ 5) : Calls Tryd.prog 90 #[.agg #[g0, iv b.rule, iv b.most]] w fun e w' => ∃ gm, e = .returned (.agg #[g0, iv b.rule, iv b.most, .map (some gm)]) ∧ Below w.heap.size w w' ∧ w.heap.size ≤ gm ∧ w'.heap[gm]? = some (.map (ents (openedD b) plKey plVal) (openedD b).length) := by
  refine calls_of_WP (cx := cx0 w (vn [g0]) 1) (n := vn [g0]) (vs := [.g [.ref 0, .int .i64 b.rule, .int .i64 b.most]]) (hp := [(0, .sl .ro 61 3 b.loads encLoad zLoad), (1, .pf NobodyAt (· = 1))]) (nx := 2) tt_ok Tryd.func90 rfl rfl rfl (by kernel_rfl) (HSat_args (vn_one (by simp [r0.one])) (by decide) ⟨⟨⟨fun _ => rfl, by decide, r0⟩, (Nat.le_of_ble_eq_true rfl)⟩, ⟨⟨hnb, fun w1 w2 h1 hw => (hw 1 rfl).trans h1, fun g hg => by cases hg; exact (Array.getElem?_eq_some_iff.1 hnb).1⟩, (Nat.le_of_ble_eq_true rfl)⟩, trivial⟩) (vsOk (by kernel_rfl)) ?_
  have hl0 := Reads.len r0
  refine WP_seq (WP_region (WPO_all tt_ok (by kernel_rfl) ?_))
  refine WP_seq (WP_toX (σ := Nat) (fun gM1 => ⟨37, [(3, [], .s (.p 5 0)), (2, [], .s (.p 3 0)), (1, [], .s (.p 2 0))], [(5, .box 94 [.ref 0, .int .i64 b.rule, .int .i64 b.most, .v (.map (some gM1))]), (4, mapE gM1 (([] : List Pl) ++ [(⟨-1, 0, false⟩ : Pl)]) plKey plVal), (3, .box 94 [.v (.slice none 0 0), .int .i64 0, .int .i64 0, .v (.map none)]), (2, .box 24 [.ref 0, .int .i64 b.rule, .int .i64 b.most]), (0, .sl .ro 61 3 b.loads encLoad zLoad), (1, .pf NobodyAt (· = 1))], 6, []⟩) ?_ ?_)
  · refine WP_drawH [] (by kernel_rfl) (by kernel_rfl) ?_
    refine H_run tt_ok [0] (f' := 7) (by kernel_rfl) (by kernel_rfl) (by kernel_rfl) ?_
    refine H_LDG tt_ok 2 65 1 0 (some 9) [.int .i64 (-1), .int .i64 0] 65 (.g [.int .i64 (-1), .int .i64 0]) (by kernel_rfl) (by kernel_rfl) (by kernel_rfl) (fun _ nV w h => (h.ents (1, .pf NobodyAt (· = 1)) (fnd_mem (by kernel_rfl))).1) (by kernel_rfl) (by kernel_rfl) (by kernel_rfl) ?_
    refine H_two 1 6 (by kernel_rfl) (by kernel_rfl) (by kernel_rfl) (fun hfz cx' hx1 hx2 => ?_) (fun hfz cx' hx1 hx2 => ?_)
    · refine MKMg (κ := Pl) plKey plVal (some 8) (by kernel_rfl) (fun _ => (by kernel_rfl)) (fun gM3 => ?_)
      refine WPO_end (by kernel_rfl) ⟨rfl, (hfz.fnds [3, 2, 0, 1] (by kernel_rfl) ⟨by kernel_rfl, by kernel_rfl, by kernel_rfl, by kernel_rfl, trivial⟩ (by kernel_rfl)), ?_⟩
      refine H_two 3 6 (by kernel_rfl) (by kernel_rfl) (by kernel_rfl) (fun hfz cx' hx1 hx2 => ?_) (fun hfz cx' hx1 hx2 => ?_)
      · refine INSg tt_ok ([] : List Pl) plKey plVal (⟨-1, 0, false⟩ : Pl) 4 gM3 65 (.g [.int .i64 (-1), .int .i64 0]) (.s (.bool false)) (by kernel_rfl) (by kernel_rfl) (fun _ => ⟨rfl, rfl⟩) (fun w => check_pairB (by kernel_rfl) _ _ w false) (fun w => find_pair_none (by kernel_rfl) _ _ plK plKey plVal (fun _ => rfl) w _ (fun x hx => by cases hx)) ?_
        refine WPO_end (by kernel_rfl) ⟨rfl, (hfz.fnds [3, 2, 0, 1] (by kernel_rfl) ⟨by kernel_rfl, by kernel_rfl, by kernel_rfl, by kernel_rfl, trivial⟩ (by kernel_rfl)), ?_⟩
        refine H_run tt_ok [4, 5] (f' := 2) (by kernel_rfl) (by kernel_rfl) (by kernel_rfl) ?_
        refine H_step 6 (by kernel_rfl) (by kernel_rfl) (fun hfz cx' hx1 hx2 => ?_)
        refine WPO_all tt_ok (by kernel_rfl) ?_
        refine ⟨rfl, (hfz.fnds [3, 2, 0, 1] (by kernel_rfl) ⟨by kernel_rfl, by kernel_rfl, by kernel_rfl, by kernel_rfl, trivial⟩ (by kernel_rfl)), ?_⟩
        refine H_step 7 (by kernel_rfl) (by kernel_rfl) (fun hfz cx' hx1 hx2 => ?_)
        refine WPO_all tt_ok (by kernel_rfl) ?_
        refine ⟨rfl, (hfz.fnds [3, 2, 0, 1] (by kernel_rfl) ⟨by kernel_rfl, by kernel_rfl, by kernel_rfl, by kernel_rfl, trivial⟩ (by kernel_rfl)), ?_⟩
        refine H_done (by kernel_rfl) ?_
        exact ⟨gM3, Le_sel (ts := [3, 2, 1]) (ids := [5, 4, 3, 2, 0, 1]) (nx := 6) (by kernel_rfl)⟩
      · refine WPO_all tt_ok (by kernel_rfl) ?_
        refine ⟨rfl, (hfz.fnds [3, 2, 0, 1] (by kernel_rfl) ⟨by kernel_rfl, by kernel_rfl, by kernel_rfl, by kernel_rfl, trivial⟩ (by kernel_rfl)), ?_⟩
        refine H_step 3 (by kernel_rfl) (by kernel_rfl) (fun hfz cx' hx1 hx2 => ?_)
        refine INSg tt_ok ([] : List Pl) plKey plVal (⟨-1, 0, false⟩ : Pl) 4 gM3 65 (.g [.int .i64 (-1), .int .i64 0]) (.s (.bool false)) (by kernel_rfl) (by kernel_rfl) (fun _ => ⟨rfl, rfl⟩) (fun w => check_pairB (by kernel_rfl) _ _ w false) (fun w => find_pair_none (by kernel_rfl) _ _ plK plKey plVal (fun _ => rfl) w _ (fun x hx => by cases hx)) ?_
        refine WPO_end (by kernel_rfl) ⟨rfl, (hfz.fnds [3, 2, 0, 1] (by kernel_rfl) ⟨by kernel_rfl, by kernel_rfl, by kernel_rfl, by kernel_rfl, trivial⟩ (by kernel_rfl)), ?_⟩
        refine H_run tt_ok [4, 5] (f' := 1) (by kernel_rfl) (by kernel_rfl) (by kernel_rfl) ?_
        refine H_step 7 (by kernel_rfl) (by kernel_rfl) (fun hfz cx' hx1 hx2 => ?_)
        refine WPO_all tt_ok (by kernel_rfl) ?_
        refine ⟨rfl, (hfz.fnds [3, 2, 0, 1] (by kernel_rfl) ⟨by kernel_rfl, by kernel_rfl, by kernel_rfl, by kernel_rfl, trivial⟩ (by kernel_rfl)), ?_⟩
        refine H_done (by kernel_rfl) ?_
        exact ⟨gM3, Le_sel (ts := [3, 2, 1]) (ids := [5, 4, 3, 2, 0, 1]) (nx := 6) (by kernel_rfl)⟩
    · refine WPO_all tt_ok (by kernel_rfl) ?_
      refine ⟨rfl, (hfz.fnds [3, 2, 0, 1] (by kernel_rfl) ⟨by kernel_rfl, by kernel_rfl, by kernel_rfl, by kernel_rfl, trivial⟩ (by kernel_rfl)), ?_⟩
      refine H_step 1 (by kernel_rfl) (by kernel_rfl) (fun hfz cx' hx1 hx2 => ?_)
      refine MKMg (κ := Pl) plKey plVal (some 8) (by kernel_rfl) (fun _ => (by kernel_rfl)) (fun gM4 => ?_)
      refine WPO_end (by kernel_rfl) ⟨rfl, (hfz.fnds [3, 2, 0, 1] (by kernel_rfl) ⟨by kernel_rfl, by kernel_rfl, by kernel_rfl, by kernel_rfl, trivial⟩ (by kernel_rfl)), ?_⟩
      refine H_step 3 (by kernel_rfl) (by kernel_rfl) (fun hfz cx' hx1 hx2 => ?_)
      refine INSg tt_ok ([] : List Pl) plKey plVal (⟨-1, 0, false⟩ : Pl) 5 gM4 65 (.g [.int .i64 (-1), .int .i64 0]) (.s (.bool false)) (by kernel_rfl) (by kernel_rfl) (fun _ => ⟨rfl, rfl⟩) (fun w => check_pairB (by kernel_rfl) _ _ w false) (fun w => find_pair_none (by kernel_rfl) _ _ plK plKey plVal (fun _ => rfl) w _ (fun x hx => by cases hx)) ?_
      refine WPO_end (by kernel_rfl) ⟨rfl, (hfz.fnds [3, 2, 0, 1] (by kernel_rfl) ⟨by kernel_rfl, by kernel_rfl, by kernel_rfl, by kernel_rfl, trivial⟩ (by kernel_rfl)), ?_⟩
      refine H_run tt_ok [4, 5] (f' := 1) (by kernel_rfl) (by kernel_rfl) (by kernel_rfl) ?_
      refine H_step 7 (by kernel_rfl) (by kernel_rfl) (fun hfz cx' hx1 hx2 => ?_)
      refine WPO_all tt_ok (by kernel_rfl) ?_
      refine ⟨rfl, (hfz.fnds [3, 2, 0, 1] (by kernel_rfl) ⟨by kernel_rfl, by kernel_rfl, by kernel_rfl, by kernel_rfl, trivial⟩ (by kernel_rfl)), ?_⟩
      refine H_done (by kernel_rfl) ?_
      exact ⟨gM4, Le_ren [(5, 4), (4, 5)] ⟨by kernel_rfl, by kernel_rfl, by kernel_rfl, by kernel_rfl, by kernel_rfl, by kernel_rfl, trivial⟩ ⟨by kernel_rfl, rfl, by kernel_rfl, by kernel_rfl, rfl, by kernel_rfl, by kernel_rfl, rfl, by kernel_rfl, trivial⟩ (by kernel_rfl) (by kernel_rfl) (rnm_id (m := 1) (by kernel_rfl)) (by show 1 ≤ 6; decide) (by kernel_rfl) (by kernel_rfl)⟩
  intro gM1
  refine WP_seq (WP_seq (WP_region (WPO_all tt_ok (by kernel_rfl) ?_)))
  refine WP_loopA (ρ := List Pl) (openedD_c1 b) (openedD_b1 b) b.loads.length (([] : List Pl) ++ [(⟨-1, 0, false⟩ : Pl)]) (fun k : Nat => (k : Int)) (fun (ci : Int) (zz : (List Pl)) => ⟨37, [(15, [], .s (.int .i64 ci)), (14, [], .s (.int .i64 (b.loads.length : Int))), (13, [], .s (.ref 0)), (3, [], .s (.p 5 0)), (2, [], .s (.p 3 0))], [(5, .box 94 [.ref 0, .int .i64 b.rule, .int .i64 b.most, .v (.map (some gM1))]), (4, mapE gM1 zz plKey plVal), (3, .box 94 [.v (.slice none 0 0), .int .i64 0, .int .i64 0, .v (.map none)]), (2, .box 24 [.ref 0, .int .i64 b.rule, .int .i64 b.most]), (0, .sl .ro 61 3 b.loads encLoad zLoad), (1, .pf NobodyAt (· = 1))], 6, []⟩) (fun zz : (List Pl) => ⟨37, [(3, [], .s (.p 5 0)), (2, [], .s (.p 3 0))], [(5, .box 94 [.ref 0, .int .i64 b.rule, .int .i64 b.most, .v (.map (some gM1))]), (4, mapE gM1 zz plKey plVal), (3, .box 94 [.v (.slice none 0 0), .int .i64 0, .int .i64 0, .v (.map none)]), (2, .box 24 [.ref 0, .int .i64 b.rule, .int .i64 b.most]), (0, .sl .ro 61 3 b.loads encLoad zLoad), (1, .pf NobodyAt (· = 1))], 6, []⟩) (fun (k1 : Nat) (zz : (List Pl)) => ∀ x ∈ zz, x.load < (k1 : Int)) (by intro x hx; simp at hx; subst hx; decide) ⟨0, rfl, Le_sel (ts := [15, 14, 13, 3, 2]) (ids := [5, 4, 3, 2, 0, 1]) (nx := 6) (by kernel_rfl)⟩ ?_ ?_
  · intro k1 v1_1 hn1 hp1 hi1 Q1 hq1 ho1
    replace hp1 : ∀ x ∈ v1_1, x.load < (k1 : Int) := hp1
    refine WP_seq (WP_region (WPO_all tt_ok (by kernel_rfl) ?_))
    refine WP_seq (WP_cond (decide ((k1 : Int) < (b.loads.length : Int))) (by kernel_rfl) (fun hc1 => ?_) (fun hc1 => ?_))
    rotate_left
    · refine WP_exit ?_
      show Q1 (.exit 0) _
      exact LA_exit hq1 v1_1 (loopR_end hi1 hc1) ⟨k1, hn1, hp1⟩ (Le_sel (ts := [3, 2]) (ids := [5, 4, 3, 2, 0, 1]) (nx := 6) (by kernel_rfl))
    have hc1' := of_decide_eq_true hc1
    have hk1 : k1 < b.loads.length := by omega
    refine WP_skip ?_
    refine WP_seq (WP_block ?_)
    refine WP_seq (WP_region (WPO_run tt_ok 1 (by kernel_rfl) ?_))
    refine IX tt_ok (k1 : Int) b.loads.length [] (by kernel_rfl) (fun hG => ⟨by omega, by omega⟩) ?_
    refine WPO_all tt_ok (by kernel_rfl) ?_
    refine WP_seq (WP_region (WPO_all tt_ok (by kernel_rfl) ?_))
    refine WP_loopA (ρ := List Pl) (openedD_c2 b k1 v1_1) (openedD_b2 b k1 v1_1) 3 v1_1 (fun k : Nat => (k : Int)) (fun (ci : Int) (zz : (List Pl)) => ⟨37, [(20, [], .s (.int .i64 ci)), (4, [], .s (.int .i64 (k1 : Int))), (5, [], .s (.p 6 0)), (15, [], .s (.int .i64 (k1 : Int))), (14, [], .s (.int .i64 (b.loads.length : Int))), (13, [], .s (.ref 0)), (3, [], .s (.p 5 0)), (2, [], .s (.p 3 0))], [(6, .box 61 [.int .i64 (b.loads.getD k1 zLoad).w.lo, .int .i64 (b.loads.getD k1 zLoad).w.hi, .int .i64 (b.loads.getD k1 zLoad).lanes]), (5, .box 94 [.ref 0, .int .i64 b.rule, .int .i64 b.most, .v (.map (some gM1))]), (4, mapE gM1 zz plKey plVal), (3, .box 94 [.v (.slice none 0 0), .int .i64 0, .int .i64 0, .v (.map none)]), (2, .box 24 [.ref 0, .int .i64 b.rule, .int .i64 b.most]), (0, .sl .ro 61 3 b.loads encLoad zLoad), (1, .pf NobodyAt (· = 1))], 7, []⟩) (fun zz : (List Pl) => ⟨37, [(15, [], .s (.int .i64 (k1 : Int))), (14, [], .s (.int .i64 (b.loads.length : Int))), (13, [], .s (.ref 0)), (3, [], .s (.p 5 0)), (2, [], .s (.p 3 0))], [(6, .box 61 [.int .i64 (b.loads.getD k1 zLoad).w.lo, .int .i64 (b.loads.getD k1 zLoad).w.hi, .int .i64 (b.loads.getD k1 zLoad).lanes]), (5, .box 94 [.ref 0, .int .i64 b.rule, .int .i64 b.most, .v (.map (some gM1))]), (4, mapE gM1 zz plKey plVal), (3, .box 94 [.v (.slice none 0 0), .int .i64 0, .int .i64 0, .v (.map none)]), (2, .box 24 [.ref 0, .int .i64 b.rule, .int .i64 b.most]), (0, .sl .ro 61 3 b.loads encLoad zLoad), (1, .pf NobodyAt (· = 1))], 7, []⟩) (fun (k2 : Nat) (zz : (List Pl)) => ∀ x ∈ zz, x.load < (k1 : Int) ∨ (x.load = (k1 : Int) ∧ x.lane < (k2 : Int))) (fun x hx => .inl (hp1 x hx)) ⟨0, rfl, Le_sel (ts := [20, 4, 5, 15, 14, 13, 3, 2]) (ids := [6, 5, 4, 3, 2, 0, 1]) (nx := 7) (by kernel_rfl)⟩ ?_ ?_
    · intro k2 v2_1 hn2 hp2 hi2 Q2 hq2 ho2
      replace hp2 : ∀ x ∈ v2_1, x.load < (k1 : Int) ∨ (x.load = (k1 : Int) ∧ x.lane < (k2 : Int)) := hp2
      refine WP_seq (WP_region (WPO_all tt_ok (by kernel_rfl) ?_))
      refine WP_seq (WP_cond (decide ((k2 : Int) < 3)) (by kernel_rfl) (fun hc2 => ?_) (fun hc2 => ?_))
      rotate_left
      · refine WP_exit ?_
        show Q2 (.exit 2) _
        exact LA_exit hq2 v2_1 (loopR_end hi2 hc2) ⟨k2, hn2, hp2⟩ (Le_sel (ts := [15, 14, 13, 3, 2]) (ids := [6, 5, 4, 3, 2, 0, 1]) (nx := 7) (by kernel_rfl))
      have hc2' := of_decide_eq_true hc2
      have hk2 : k2 < 3 := by omega
      refine WP_skip ?_
      refine WP_seq (WP_block ?_)
      refine WP_seq (WP_region (WPO_all tt_ok (by kernel_rfl) ?_))
      refine WP_drawH [4] (by kernel_rfl) (by kernel_rfl) ?_
      refine H_run tt_ok [0, 1, 2, 3, 4, 5, 6, 7] (f' := 4) (by kernel_rfl) (by kernel_rfl) (by kernel_rfl) ?_
      refine H_step 8 (by kernel_rfl) (by kernel_rfl) (fun hfz cx' hx1 hx2 => ?_)
      refine BIN .shr 3 (.tmp 29) (.tmp 30) (.s (.int .i64 (b.loads.getD k1 zLoad).lanes)) (.s (.int .i64 (k2 : Int))) (.s (.int .i64 (Int.fdiv (b.loads.getD k1 zLoad).lanes (2 ^ (min (k2 : Int).toNat IntKind.i64.bits))))) [] (by kernel_rfl) (by kernel_rfl) (by kernel_rfl) (fun _ => BinOk_shr (by omega)) ?_
      refine WPO_end (by kernel_rfl) ⟨rfl, (hfz.fnds [6, 5, 3, 2, 0, 1] (by kernel_rfl) ⟨by kernel_rfl, by kernel_rfl, by kernel_rfl, by kernel_rfl, by kernel_rfl, by kernel_rfl, trivial⟩ (by kernel_rfl)), ?_⟩
      refine H_run tt_ok [9, 10] (f' := 1) (by kernel_rfl) (by kernel_rfl) (by kernel_rfl) ?_
      refine H_step 11 (by kernel_rfl) (by kernel_rfl) (fun hfz cx' hx1 hx2 => ?_)
      refine MUPg tt_ok v2_1 plKey plVal (⟨(k1 : Int), (k2 : Int), (IntKind.i64.wrap (BitVec.ofInt IntKind.i64.bits (Int.fdiv (b.loads.getD k1 zLoad).lanes (2 ^ (min (k2 : Int).toNat IntKind.i64.bits))) &&& BitVec.ofInt IntKind.i64.bits 1).toNat) == 1⟩ : Pl) 4 gM1 65 (.g [.int .i64 (k1 : Int), .int .i64 (k2 : Int)]) (.s (.bool ((IntKind.i64.wrap (BitVec.ofInt IntKind.i64.bits (Int.fdiv (b.loads.getD k1 zLoad).lanes (2 ^ (min (k2 : Int).toNat IntKind.i64.bits))) &&& BitVec.ofInt IntKind.i64.bits 1).toNat) == 1))) (by kernel_rfl) (by kernel_rfl) (fun _ => ⟨rfl, rfl⟩) (fun w => check_pairB (by kernel_rfl) _ _ w false) (fun w => find_pair_none (by kernel_rfl) _ _ plK plKey plVal (fun _ => rfl) w _ (fun x hx h => by have h0 := hp2 x hx; have h1 := congrArg Prod.fst h; have h2 := congrArg Prod.snd h; simp only [plK] at h1 h2; omega)) ?_
      refine WPO_end (by kernel_rfl) ⟨rfl, (hfz.fnds [6, 5, 3, 2, 0, 1] (by kernel_rfl) ⟨by kernel_rfl, by kernel_rfl, by kernel_rfl, by kernel_rfl, by kernel_rfl, by kernel_rfl, trivial⟩ (by kernel_rfl)), ?_⟩
      refine H_done (by kernel_rfl) ?_
      refine WP_region (WPO_all tt_ok (by kernel_rfl) ?_)
      show Q2 .normal _
      exact LA_go hq2 (ci := IntKind.i64.wrap ((k2 : Int) + 1)) (v2_1 ++ [(⟨(k1 : Int), (k2 : Int), (IntKind.i64.wrap (BitVec.ofInt IntKind.i64.bits (Int.fdiv (b.loads.getD k1 zLoad).lanes (2 ^ (min (k2 : Int).toNat IntKind.i64.bits))) &&& BitVec.ofInt IntKind.i64.bits 1).toNat) == 1⟩ : Pl)]) hk2 (by show _ = ((k2 + 1 : Nat) : Int); rw [wrapI (by omega) (by omega)]; omega) (loopR_go hi2 hk2 hc2 (rfl)) (fun x hx => (List.mem_append.1 hx).elim (fun h => by have := hp2 x h; omega) (fun h => by rw [List.mem_singleton.1 h]; exact .inr ⟨rfl, by show (k2 : Int) < ((k2 + 1 : Nat) : Int); omega⟩)) (Le_sel (ts := [20, 4, 5, 15, 14, 13, 3, 2]) (ids := [6, 5, 4, 3, 2, 0, 1]) (nx := 7) (by kernel_rfl))
    intro u2_0 hR2 hP2 s' hl
    obtain ⟨kP2, hkP2, hpP2⟩ := hP2
    replace hpP2 : ∀ x ∈ u2_0, x.load < (k1 : Int) ∨ (x.load = (k1 : Int) ∧ x.lane < (kP2 : Int)) := hpP2
    refine WP_le hl ?_
    clear hl s'
    refine WP_region (WPO_all tt_ok (by kernel_rfl) ?_)
    show Q1 .normal _
    exact LA_go hq1 (ci := IntKind.i64.wrap ((k1 : Int) + 1)) u2_0 hk1 (by show _ = ((k1 + 1 : Nat) : Int); rw [wrapI (by omega) (by omega)]; omega) (loopR_go hi1 hk1 hc1 (by unfold openedD_b1; simp only [hR2, cond_true, cond_false])) (fun x hx => by have := hpP2 x hx; omega) (Le_sel (ts := [15, 14, 13, 3, 2]) (ids := [5, 4, 3, 2, 0, 1]) (nx := 6) (by kernel_rfl))
  intro u1_0 hR1 hP1 s' hl
  obtain ⟨kP1, hkP1, hpP1⟩ := hP1
  replace hpP1 : ∀ x ∈ u1_0, x.load < (kP1 : Int) := hpP1
  refine WP_le hl ?_
  clear hl s'
  refine WP_seq (WP_region (WPO_all tt_ok (by kernel_rfl) ?_))
  refine WP_ret ?_
  exact ⟨.g [.ref 0, .int .i64 b.rule, .int .i64 b.most, .v (.map (some gM1))], by kernel_rfl, fun nV w' h => ⟨gM1, by rw [show g0 = nV 0 from (h.ini 0 (by show 0 < 1; decide)).symm]; rfl, h.bel, (h.ents (4, mapE gM1 u1_0 plKey plVal) (fnd_mem (by kernel_rfl))).2.1 gM1 rfl, by rw [show openedD b = u1_0 from by unfold openedD; simp only [hR1, cond_true, cond_false]]; exact (h.ents (4, mapE gM1 u1_0 plKey plVal) (fnd_mem (by kernel_rfl))).1⟩⟩
theorem openedD_eq (b : DBook) : openedD b = plL b := by
  unfold openedD
  rw [loopR_app (fun k : Nat => (List.range 3).map fun l : Nat => (⟨k, l, laneB (b.loads.getD k zLoad) l⟩ : Pl)) (fun k v hk => by simp only [openedD_c1]; rw [decide_eq_true]; omega) (fun k v hk => by
    simp only [openedD_b1]
    rw [loopR_app (b := openedD_b2 b k v) (c := openedD_c2 b k v) (fun l : Nat => [(⟨k, l, laneB (b.loads.getD k zLoad) l⟩ : Pl)]) (fun l v hl => by simp only [openedD_c2]; rw [decide_eq_true]; omega) (fun l v hl => rfl)]
    simp only [List.flatMap_singleton'] <;> first | rfl | skip)]
  rfl
theorem opened_plL (g0 : Value) (b : DBook) (w : World) (r0 : Reads w g0 3 b.loads encLoad zLoad) (hnb : NobodyAt w) (hb5 : b.loads.length ≤ 5) : Calls Tryd.prog 90 #[.agg #[g0, iv b.rule, iv b.most]] w fun e w' => ∃ gm, e = .returned (.agg #[g0, iv b.rule, iv b.most, .map (some gm)]) ∧ Below w.heap.size w w' ∧ w.heap.size ≤ gm ∧ w'.heap[gm]? = some (.map (ents (plL b) plKey plVal) (plL b).length) := by
  rw [← openedD_eq]
  exact openedD_calls g0 b w r0 hnb hb5
end Go.Proofs.YthfnedbpmdkdjaaDoor.D
namespace Go.Proofs.YthfnedbpmdkdjaaDoor.Eng
open Go Go.RowKit
set_option linter.unusedVariables false
set_option linter.unusedSimpArgs false
def ldtA (ops : Array Oper) (s : AS) : List Oper → Option (TypeId × Nat × Nat × List (Bool × Bool) × Option Tmp × List (Nat × Bool))
  | o :: _ => match o.op, gTag s ops o with
    | .load t x, some T => match ev s T x with
      | some (.s (.v (.pointer (some ⟨g, off, none⟩)))) => some (t, g, off, tagL s T, o.dst, T)
      | _ => none
    | _, _ => none
  | [] => none
def ldtP (ops : Array Oper) (s : AS) (l : List Oper) (r : AV) : Option AS :=
  match ldtA ops s l with
  | some (_, _, _, _, d, T) => s.put d T r
  | none => none
section
variable {P : Program} {tt : TT} {cx : Cx} {s s' : AS} {Q : Exit → AS → Prop} {ops : Array Oper} {l : List Oper}
theorem LDGT (hT : TTok P tt) (t g off : Nat) (G : List (Bool × Bool)) (cs : List AC) (ty : TypeId) (v : AV) (h : (ldtA ops s l).map (fun z => (z.1, z.2.1, z.2.2.1, z.2.2.2.1)) = some (t, g, off, G)) (hv : ((tyL tt t).bind fun i => sub cs off i.size i.d.ag) = some v) (hok : okB s v = true)
    (hw : ∀ n w, HSat cx n s w → w.heap[g]? = some (.cells (cellsV n cs) ty (0, 0))) (hp : (ldtP ops s l v).isSome = true) (hK : WPO P cx ops l.tail ((ldtP ops s l v).getD s) Q) : WPO P cx ops l s Q := by
  obtain ⟨⟨t', g', off', G', d, T⟩, hr', he⟩ := Option.map_eq_some_iff.1 h
  simp only [Prod.mk.injEq] at he
  obtain ⟨rfl, rfl, rfl, rfl⟩ := he
  cases l with
  | nil => cases hr'
  | cons o rest =>
    obtain ⟨s', hs'⟩ := Option.isSome_iff_exists.1 hp
    rw [hs'] at hK
    simp only [ldtP, hr'] at hs'
    simp only [ldtA] at hr'
    split at hr' <;> try (cases hr'; done)
    rename_i t2 x T' ho hg
    split at hr' <;> try (cases hr'; done)
    rename_i g2 off2 hx
    simp only [Option.some.injEq, Prod.mk.injEq] at hr'
    obtain ⟨rfl, rfl, rfl, rfl, rfl, rfl⟩ := hr'
    obtain ⟨i, hi, hsub⟩ := Option.bind_eq_some_iff.1 hv
    obtain ⟨F⟩ := hT.get hi
    refine WPO_val hg hs' (fun htp n a w hh henv hH => ⟨?_, okB_sound hok⟩) hK
    obtain ⟨e1, _⟩ := ev_sound henv hH hx
    simp only [AV.c, AC.c] at e1
    have hl := loadVar_sound (w := w) (n := n) F ⟨g2, off2, none⟩ cs off2 v hsub fun j c hc _ => by
      rw [add_pl, cell_of_row w g2 _ _ _ _ (hw n w hh)]
      simp [cellsV, hc]
    unfold execOp
    rw [ho]
    simp only [e1, Sem.run_bind, Instr.loadAt, Instr.sureAddr, Sem.run_pure, Result.andThen_ok, hl]
end
end Go.Proofs.YthfnedbpmdkdjaaDoor.Eng
namespace Go.Proofs.YthfnedbpmdkdjaaDoor.D
open Go Go.RowKit Go.Proofs.YthfnedbpmdkdjaaDoor.Eng Go.Proofs.YthfnedbpmdkdjaaDoor.Cm
set_option linter.unusedVariables false
set_option linter.unusedSimpArgs false
set_option linter.unusedSectionVars false
theorem mem_plL {b : DBook} {x : Pl} : x ∈ plL b ↔ x = ⟨-1, 0, false⟩ ∨ ∃ k l : Nat, k < b.loads.length ∧ l < 3 ∧ x = ⟨k, l, laneB (b.loads.getD k zLoad) l⟩ := by
  unfold plL
  simp only [List.mem_cons, List.mem_flatMap, List.mem_map, List.mem_range]
  constructor
  · rintro (h | ⟨k, hk, l, hl, h⟩)
    · exact .inl h
    · exact .inr ⟨k, l, hk, hl, h.symm⟩
  · rintro (h | ⟨k, l, hk, hl, h⟩)
    · exact .inl h
    · exact .inr ⟨k, hk, l, hl, h.symm⟩
def isPl (b : DBook) (i l : Int) : Bool := decide (0 ≤ i) && decide (i < b.loads.length) && decide (0 ≤ l) && decide (l < 3) && laneB (b.loads.getD i.toNat zLoad) l
theorem atP_eq (b : DBook) (i l : Int) : atP (plL b) plK plIs i l = isPl b i l := by
  unfold atP
  rw [Bool.eq_iff_iff]
  cases hf : (plL b).find? fun x => plK x == (i, l) with
  | none =>
    simp only [Option.map_none, Option.getD_none, Bool.false_eq_true, false_iff]
    intro h
    unfold isPl at h
    simp only [Bool.and_eq_true, decide_eq_true_eq] at h
    have := List.find?_eq_none.1 hf (⟨(i.toNat : Int), (l.toNat : Int), laneB (b.loads.getD i.toNat zLoad) (l.toNat : Int)⟩ : Pl) (mem_plL.2 (.inr ⟨i.toNat, l.toNat, by omega, by omega, rfl⟩))
    refine this ?_
    rw [beq_iff_eq]
    exact Prod.ext (by show ((i.toNat : Nat) : Int) = i; omega) (by show ((l.toNat : Nat) : Int) = l; omega)
  | some x =>
    have hm := List.mem_of_find?_eq_some hf
    have hk := List.find?_some hf
    rw [beq_iff_eq] at hk
    have h1 : x.load = i := congrArg Prod.fst hk
    have h2 : x.lane = l := congrArg Prod.snd hk
    simp only [Option.map_some, Option.getD_some]
    rcases mem_plL.1 hm with rfl | ⟨k, q, hk', hq, rfl⟩
    · simp only at h1 h2
      unfold isPl
      rw [decide_eq_false (show ¬ 0 ≤ i by omega)]; simp
    · simp only at h1 h2
      subst h1 h2
      unfold isPl
      rw [decide_eq_true (show (0 : Int) ≤ k by omega), decide_eq_true (show (k : Int) < b.loads.length by omega), decide_eq_true (show (0 : Int) ≤ q by omega), decide_eq_true (show (q : Int) < 3 by omega)]
      simp
theorem pl_in {b : DBook} {i l : Int} (h : atP (plL b) plK plIs i l = true) : (0 ≤ i ∧ i < b.loads.length) ∧ (0 ≤ l ∧ l < 3) ∧ laneB (b.loads.getD i.toNat zLoad) l = true := by
  rw [atP_eq] at h
  unfold isPl at h
  simp only [Bool.and_eq_true, decide_eq_true_eq] at h
  exact ⟨⟨h.1.1.1.1, h.1.1.1.2⟩, ⟨h.1.1.2, h.1.2⟩, h.2⟩
theorem pl_idx {b : DBook} {i l : Int} {c : Bool} (hb : b.loads.length ≤ 5) (h : (!atP (plL b) plK plIs i l || c) = false) : 0 ≤ i ∧ i < 5 := by
  simp only [Bool.or_eq_false_iff, Bool.not_eq_false'] at h
  have := (pl_in h.1).1
  omega
theorem pl_idx2 {b : DBook} {i l : Int} {c d : Bool} (hb : b.loads.length ≤ 5) (h : ((!atP (plL b) plK plIs i l || c) || d) = false) : 0 ≤ i ∧ i < 5 := by
  rw [Bool.or_eq_false_iff] at h
  exact pl_idx hb h.1
theorem empty_calls (w : World) : Calls Tryd.prog 120 #[] w fun e w' => e = .returned (.agg ((List.range 5).map fun i => iv ((fun _ => 0 : Nat → Int) i)).toArray) ∧ Below w.heap.size w w' := by
  refine calls_of_WP (cx := cx0 w Eng.n0 0) (n := Eng.n0) (vs := []) (hp := []) (nx := 0) tt_ok Tryd.func120 rfl rfl rfl (by kernel_rfl) (HSat0 _ _ _ _ _ _ (fun _ => rfl) (Nat.le_refl _)) (vsOk (by kernel_rfl)) ?_
  refine WP_seq (WP_region (WPO_all tt_ok (by kernel_rfl) ?_))
  refine WP_seq (WP_region (WPO_all tt_ok (by kernel_rfl) ?_))
  refine WP_seq (WP_region (WPO_all tt_ok (by kernel_rfl) ?_))
  refine WP_ret ?_
  exact ⟨.g (arrI 5 fun _ => 0), by kernel_rfl, fun nV w' h => ⟨rfl, h.bel⟩⟩
def isStowD_c1 (b : DBook) (on : List Place) (k1 : Nat) : (Nat → Int) → Bool := fun v1_1 => decide ((k1 : Int) < (on.length : Int))
def isStowD_b1 (b : DBook) (on : List Place) (k1 : Nat) : (Nat → Int) → Bd (Nat → Int) Bool := fun v1_1 => (bif ((!(atP (plL b) plK plIs (on.getD k1 zPlace).load (on.getD k1 zPlace).lane)) || ((on.getD k1 zPlace).load == (-1) && (on.getD k1 zPlace).lane == 0)) || (decide ((v1_1 (on.getD k1 zPlace).load.toNat) > 0)) then .ret false else .go (fun q => if q = (on.getD k1 zPlace).load.toNat then IntKind.i64.wrap ((on.getD k1 zPlace).lane + 1) else (v1_1) q))
def isStowD (b : DBook) (on : List Place) : Bool :=
  (match loopR (isStowD_c1 b on) (isStowD_b1 b on) on.length 0 (fun _ => 0) with | .brk u1_0 => ((on.length : Int) == 0) || (!(arrEq 5 u1_0 (fun _ => 0))) | .ret r => r)
theorem isStowD_calls (g0 g1 : Value) (gm : Nat) (b : DBook) (on : List Place) (w : World) (r0 : Reads w g0 3 b.loads encLoad zLoad) (r1 : Reads w g1 2 on encPlace zPlace) (hm : w.heap[gm]? = some (.map (ents (plL b) plKey plVal) (plL b).length)) (hnb : NobodyAt w) (hb5 : b.loads.length ≤ 5) : Calls Tryd.prog 116 #[.agg #[g0, iv b.rule, iv b.most, .map (some gm)], g1] w fun e w' => e = .returned (.bool (isStowD b on)) ∧ Below w.heap.size w w' := by
  refine calls_of_WP (cx := cx0 w (vn [g0, g1]) 2) (n := vn [g0, g1]) (vs := [.g [.ref 0, .int .i64 b.rule, .int .i64 b.most, .v (.map (some gm))], .s (.ref 1)]) (hp := [(0, .sl .ro 61 3 b.loads encLoad zLoad), (1, .sl .ro 65 2 on encPlace zPlace), (2, mapF gm (plL b) plKey plVal), (3, .pf NobodyAt (· = 1))]) (nx := 4) tt_ok Tryd.func116 rfl rfl rfl (by kernel_rfl) (HSat_args (vn_one (by simp [r0.one, r1.one])) (by decide) ⟨⟨⟨fun _ => rfl, by decide, r0⟩, (Nat.le_of_ble_eq_true rfl)⟩, ⟨⟨fun _ => rfl, by decide, r1⟩, (Nat.le_of_ble_eq_true rfl)⟩, ⟨⟨hm, fun w1 w2 h1 hw => (hw gm rfl).trans h1, fun g hg => by cases hg; exact (Array.getElem?_eq_some_iff.1 hm).1⟩, (Nat.le_of_ble_eq_true rfl)⟩, ⟨⟨hnb, fun w1 w2 h1 hw => (hw 1 rfl).trans h1, fun g hg => by cases hg; exact (Array.getElem?_eq_some_iff.1 hnb).1⟩, (Nat.le_of_ble_eq_true rfl)⟩, trivial⟩) (vsOk (by kernel_rfl)) ?_
  have hl0 := Reads.len r0
  have hl1 := Reads.len r1
  refine WP_seq (WP_region (WPO_all tt_ok (by kernel_rfl) ?_))
  refine WP_seq (WP_region (CALL 120 [] (.g (arrI 5 (fun _ => 0))) [] (by kernel_rfl) (goes_of (by kernel_rfl)) (by kernel_rfl) (by kernel_rfl) (fun _ n w _ => (empty_calls w).mono fun e w' h => h) ?_))
  refine WPO_all tt_ok (by kernel_rfl) ?_
  refine WP_seq (WP_seq (WP_region (WPO_all tt_ok (by kernel_rfl) ?_)))
  refine WP_loopA (ρ := Bool) (isStowD_c1 b on) (isStowD_b1 b on) on.length (fun _ => 0) (fun k : Nat => (k : Int)) (fun (ci : Int) (zz : (Nat → Int)) => ⟨47, [(11, [], .s (.int .i64 ci)), (10, [], .s (.int .i64 (on.length : Int))), (9, [], .s (.ref 1)), (5, [], .s (.p 5 0)), (2, [], .s (.p 4 0)), (1, [], .s (.ref 1))], [(5, .box 130 (arrI 5 zz)), (4, .box 94 [.ref 0, .int .i64 b.rule, .int .i64 b.most, .v (.map (some gm))]), (0, .sl .ro 61 3 b.loads encLoad zLoad), (1, .sl .ro 65 2 on encPlace zPlace), (2, mapF gm (plL b) plKey plVal), (3, .pf NobodyAt (· = 1))], 6, []⟩) (fun zz : (Nat → Int) => ⟨47, [(5, [], .s (.p 5 0)), (1, [], .s (.ref 1))], [(5, .box 130 (arrI 5 zz)), (4, .box 94 [.ref 0, .int .i64 b.rule, .int .i64 b.most, .v (.map (some gm))]), (0, .sl .ro 61 3 b.loads encLoad zLoad), (1, .sl .ro 65 2 on encPlace zPlace), (2, mapF gm (plL b) plKey plVal), (3, .pf NobodyAt (· = 1))], 6, []⟩) (fun k zz => True) trivial ⟨0, rfl, Le_sel (ts := [11, 10, 9, 5, 2, 1]) (ids := [5, 4, 0, 1, 2, 3]) (nx := 6) (by kernel_rfl)⟩ ?_ ?_
  · intro k1 v1_1 hn1 hp1 hi1 Q1 hq1 ho1
    refine WP_seq (WP_region (WPO_all tt_ok (by kernel_rfl) ?_))
    refine WP_seq (WP_cond (decide ((k1 : Int) < (on.length : Int))) (by kernel_rfl) (fun hc1 => ?_) (fun hc1 => ?_))
    rotate_left
    · refine WP_exit ?_
      show Q1 (.exit 0) _
      exact LA_exit hq1 v1_1 (loopR_end hi1 hc1) ⟨k1, hn1, hp1⟩ (Le_sel (ts := [5, 1]) (ids := [5, 4, 0, 1, 2, 3]) (nx := 6) (by kernel_rfl))
    have hc1' := of_decide_eq_true hc1
    have hk1 : k1 < on.length := by omega
    refine WP_skip ?_
    refine WP_seq (WP_block ?_)
    refine WP_seq (WP_region (IX tt_ok (k1 : Int) on.length [] (by kernel_rfl) (fun hG => ⟨by omega, by omega⟩) ?_))
    refine WPO_all tt_ok (by kernel_rfl) ?_
    refine WP_seq (WP_seq (WP_region (WPO_run tt_ok 3 (by kernel_rfl) ?_)))
    refine LKP_pair tt_ok (plL b) plKey plVal plK plIs (plL b).length gm 65 4 (on.getD k1 zPlace).load (on.getD k1 zPlace).lane [] (by kernel_rfl) (fun _ => rfl) (fun _ => rfl) (by kernel_rfl) (by kernel_rfl) (by kernel_rfl) (fun nV w h => (h.ents (2, mapF gm (plL b) plKey plVal) (fnd_mem (by kernel_rfl))).1) ?_
    refine WPO_run tt_ok 3 (by kernel_rfl) ?_
    refine LDGT tt_ok 65 1 0 [(!(atP (plL b) plK plIs (on.getD k1 zPlace).load (on.getD k1 zPlace).lane), false)] [.int .i64 (-1), .int .i64 0] 65 (.g [.int .i64 (-1), .int .i64 0]) (by kernel_rfl) (by kernel_rfl) (by kernel_rfl) (fun nV w h => (h.ents (3, .pf NobodyAt (· = 1)) (fnd_mem (by kernel_rfl))).1) (by kernel_rfl) ?_
    refine BIN .eql 65 (.tmp 21) (.tmp 22) (.g [.int .i64 (on.getD k1 zPlace).load, .int .i64 (on.getD k1 zPlace).lane]) (.g [.int .i64 (-1), .int .i64 0]) (.s (.bool ((on.getD k1 zPlace).load == (-1) && (on.getD k1 zPlace).lane == 0))) [(!(atP (plL b) plK plIs (on.getD k1 zPlace).load (on.getD k1 zPlace).lane), false)] (by kernel_rfl) (by kernel_rfl) (by kernel_rfl) (fun _ => BinOk_pair (by kernel_rfl) _ _ _ _) ?_
    refine WPO_run tt_ok 4 (by kernel_rfl) ?_
    refine AIX tt_ok (on.getD k1 zPlace).load 5 [((!(atP (plL b) plK plIs (on.getD k1 zPlace).load (on.getD k1 zPlace).lane)) || ((on.getD k1 zPlace).load == (-1) && (on.getD k1 zPlace).lane == 0), false)] (by kernel_rfl) (fun hG => (by first | exact pl_idx hb5 hG.1 | exact hix | exact ⟨by omega, by omega⟩)) ?_
    refine ARD tt_ok 5 (on.getD k1 zPlace).load 1 0 [((!(atP (plL b) plK plIs (on.getD k1 zPlace).load (on.getD k1 zPlace).lane)) || ((on.getD k1 zPlace).load == (-1) && (on.getD k1 zPlace).lane == 0), false)] 130 (arrI 5 v1_1) (.int .i64 (v1_1 (on.getD k1 zPlace).load.toNat)) (by kernel_rfl) (by kernel_rfl) (by kernel_rfl) (fun hG => (by have hi := (by first | exact pl_idx hb5 hG.1 | exact hix | exact ⟨by omega, by omega⟩); simp only [Nat.mul_one, Nat.add_zero]; exact arrI_get (by omega))) ?_
    refine WPO_all tt_ok (by kernel_rfl) ?_
    refine WP_cond (((!(atP (plL b) plK plIs (on.getD k1 zPlace).load (on.getD k1 zPlace).lane)) || ((on.getD k1 zPlace).load == (-1) && (on.getD k1 zPlace).lane == 0)) || (decide ((v1_1 (on.getD k1 zPlace).load.toNat) > 0))) (by kernel_rfl) (fun hc3 => ?_) (fun hc3 => ?_)
    · have hc3' := hc3; try simp only [Bool.and_eq_true, Bool.or_eq_true, Bool.and_eq_false_iff, Bool.or_eq_false_iff, Bool.not_eq_true', Bool.not_eq_false', decide_eq_true_eq, decide_eq_false_iff_not, beq_iff_eq, beq_eq_false_iff_ne, bne_iff_ne, bne_eq_false_iff_eq, ne_eq] at hc3'
      refine WP_seq (WP_region (WPO_all tt_ok (by kernel_rfl) ?_))
      refine WP_ret ?_
      show Q1 .ret _
      refine LA_ret hq1 ?_
      have he4 := loopR_ret (r := false) hi1 hk1 hc1 (by unfold isStowD_b1; simp only [hc3, cond_true, cond_false])
      exact ⟨.s (.bool false), by kernel_rfl, fun nV w' h => ⟨by rw [show isStowD b on = false from by unfold isStowD; simp only [he4, cond_true, cond_false]]; rfl, h.bel⟩⟩
    have hc3' := hc3; try simp only [Bool.and_eq_true, Bool.or_eq_true, Bool.and_eq_false_iff, Bool.or_eq_false_iff, Bool.not_eq_true', Bool.not_eq_false', decide_eq_true_eq, decide_eq_false_iff_not, beq_iff_eq, beq_eq_false_iff_ne, bne_iff_ne, bne_eq_false_iff_eq, ne_eq] at hc3'
    refine WP_skip ?_
    have hix : 0 ≤ (on.getD k1 zPlace).load ∧ (on.getD k1 zPlace).load < 5 := pl_idx2 hb5 (by assumption)
    refine WP_region (WPO_run tt_ok 5 (by kernel_rfl) ?_)
    refine AIX tt_ok (on.getD k1 zPlace).load 5 [] (by kernel_rfl) (fun hG => (by first | exact pl_idx hb5 hG.1 | exact hix | exact ⟨by omega, by omega⟩)) ?_
    refine AST tt_ok 5 (on.getD k1 zPlace).load 1 0 130 3 (arrI 5 v1_1) (arrI 5 (fun q => if q = (on.getD k1 zPlace).load.toNat then IntKind.i64.wrap ((on.getD k1 zPlace).lane + 1) else (v1_1) q)) (.int .i64 (IntKind.i64.wrap ((on.getD k1 zPlace).lane + 1))) (by kernel_rfl) (by kernel_rfl) (by first | (simp [arrB, arrI]; omega) | (simp only [arrB, arrI, List.length_map, List.length_range]; omega)) (by simp only [Nat.mul_one, Nat.add_zero]; exact arrI_set (by omega)) (by kernel_rfl) ?_
    refine WPO_nil ?_
    refine WP_region (WPO_all tt_ok (by kernel_rfl) ?_)
    show Q1 .normal _
    exact LA_go hq1 (ci := IntKind.i64.wrap ((k1 : Int) + 1)) (fun q => if q = (on.getD k1 zPlace).load.toNat then IntKind.i64.wrap ((on.getD k1 zPlace).lane + 1) else (v1_1) q) hk1 (by show _ = ((k1 + 1 : Nat) : Int); rw [wrapI (by omega) (by omega)]; omega) (loopR_go hi1 hk1 hc1 (by unfold isStowD_b1; simp only [hc3, cond_true, cond_false])) trivial (Le_sel (ts := [11, 10, 9, 5, 2, 1]) (ids := [5, 4, 0, 1, 2, 3]) (nx := 6) (by kernel_rfl))
  intro u1_0 hR1 hP1 s' hl
  refine WP_le hl ?_
  clear hl s'
  refine WP_seq (WP_draw (by kernel_rfl) (by kernel_rfl) ?_)
  refine WPQ_run tt_ok 5 (by kernel_rfl) ?_
  refine QCALL 120 [] (.g (arrI 5 (fun _ => 0))) [((on.length : Int) == 0, false)] (by kernel_rfl) (goes_of (by kernel_rfl)) (by kernel_rfl) (by kernel_rfl) (fun _ n w _ => (empty_calls w).mono fun e w' h => h) ?_
  refine QBIN .neq 130 (.tmp 43) (.tmp 44) (.g (arrI 5 u1_0)) (.g (arrI 5 (fun _ => 0))) (.s (.bool (!(arrEq 5 u1_0 (fun _ => 0))))) [((on.length : Int) == 0, false)] (by kernel_rfl) (by kernel_rfl) (by kernel_rfl) (fun _ => BinOk_fIn (by kernel_rfl) _ _) ?_
  refine WPQ_all tt_ok (by kernel_rfl) ?_
  refine WP_ret ?_
  exact ⟨.s (.bool (((on.length : Int) == 0) || (!(arrEq 5 u1_0 (fun _ => 0))))), by kernel_rfl, fun nV w' h => ⟨by rw [show isStowD b on = (((on.length : Int) == 0) || (!(arrEq 5 u1_0 (fun _ => 0)))) from by unfold isStowD; simp only [hR1, cond_true, cond_false]]; rfl, h.bel⟩⟩
end Go.Proofs.YthfnedbpmdkdjaaDoor.D
namespace Go.Proofs.YthfnedbpmdkdjaaDoor.D
open Go Go.RowKit Go.Proofs.YthfnedbpmdkdjaaDoor.Eng Go.Proofs.YthfnedbpmdkdjaaDoor.Cm
set_option linter.unusedVariables false
set_option linter.unusedSimpArgs false
set_option linter.unusedSectionVars false
structure ValidD (b : DBook) : Prop where
  n : 1 ≤ b.loads.length ∧ b.loads.length ≤ 5
  rule : 0 ≤ b.rule ∧ b.rule ≤ 30
  most : 1 ≤ b.most ∧ b.most ≤ 200
  loads : ∀ x ∈ b.loads, (1 ≤ x.w.lo ∧ x.w.lo ≤ x.w.hi ∧ x.w.hi ≤ 60 ∧ x.w.hi - x.w.lo ≤ 4) ∧ (1 ≤ x.lanes ∧ x.lanes ≤ 7)
theorem ValidD.load {b : DBook} (h : ValidD b) {k : Nat} (hk : k < b.loads.length) : (1 ≤ (b.loads.getD k zLoad).w.lo ∧ (b.loads.getD k zLoad).w.lo ≤ (b.loads.getD k zLoad).w.hi ∧ (b.loads.getD k zLoad).w.hi ≤ 60 ∧ (b.loads.getD k zLoad).w.hi - (b.loads.getD k zLoad).w.lo ≤ 4) ∧ (1 ≤ (b.loads.getD k zLoad).lanes ∧ (b.loads.getD k zLoad).lanes ≤ 7) := h.loads _ (getD_mem hk)
def okLoad (x : Load) : Bool := ((((withinD x.w.lo 1 x.w.hi)) && (decide (x.w.hi ≤ 60))) && (decide ((IntKind.i64.wrap (x.w.hi - x.w.lo)) ≤ 4))) && (withinD x.lanes 1 7)
theorem okLoad_iff {x : Load} : okLoad x = true ↔ (1 ≤ x.w.lo ∧ x.w.lo ≤ x.w.hi ∧ x.w.hi ≤ 60 ∧ x.w.hi - x.w.lo ≤ 4) ∧ (1 ≤ x.lanes ∧ x.lanes ≤ 7) := by
  unfold okLoad withinD
  simp only [Bool.and_eq_true, decide_eq_true_eq]
  constructor
  · rintro ⟨⟨⟨⟨h1, h2⟩, h3⟩, h4⟩, h5, h6⟩
    rw [wrapI (by omega) (by omega)] at h4
    exact ⟨⟨h1, h2, h3, h4⟩, h5, h6⟩
  · rintro ⟨⟨h1, h2, h3, h4⟩, h5, h6⟩
    exact ⟨⟨⟨⟨h1, h2⟩, h3⟩, by rw [wrapI (by omega) (by omega)]; exact h4⟩, h5, h6⟩
theorem checkD_eq (b : DBook) : checkD b = if ((((withinD (b.loads.length : Int) 1 5) && (withinD b.rule 0 30)) && (withinD b.most 1 200)) && (List.range b.loads.length).all fun k => okLoad (b.loads.getD k zLoad)) = true then 0 else 30 := by
  unfold checkD
  rw [loopR_and (fun k => okLoad (b.loads.getD k zLoad)) (fun k v hk => by simp only [checkD_c1]; rw [decide_eq_true]; omega) (fun k v hk => by
    simp only [checkD_b1, okLoad, Bool.and_assoc])]
  simp only
  cases (((withinD (b.loads.length : Int) 1 5) && (withinD b.rule 0 30)) && (withinD b.most 1 200)) && (List.range b.loads.length).all fun k => okLoad (b.loads.getD k zLoad) <;> rfl
theorem checkD_valid {b : DBook} : checkD b = 0 ↔ ValidD b := by
  have h : checkD b = 0 ↔ ((((withinD (b.loads.length : Int) 1 5) && (withinD b.rule 0 30)) && (withinD b.most 1 200)) && (List.range b.loads.length).all fun k => okLoad (b.loads.getD k zLoad)) = true := by
    rw [checkD_eq]; split
    · rename_i h; exact ⟨fun _ => h, fun _ => rfl⟩
    · rename_i h; exact ⟨fun h' => absurd h' (by decide), fun h' => absurd h' h⟩
  rw [h]
  simp only [Bool.and_eq_true, List.all_eq_true, List.mem_range, okLoad_iff]
  unfold withinD
  simp only [Bool.and_eq_true, decide_eq_true_eq]
  constructor
  · rintro ⟨⟨⟨h1, h2⟩, h3⟩, h4⟩
    refine ⟨by omega, h2, h3, fun x hx => ?_⟩
    obtain ⟨k, hk, rfl⟩ := List.mem_iff_getElem.1 hx
    have := h4 k hk
    rw [List.getD_eq_getElem?_getD, List.getElem?_eq_getElem hk] at this
    exact this
  · intro h
    exact ⟨⟨⟨by have := h.n; omega, h.rule⟩, h.most⟩, fun k hk => h.loads _ (getD_mem hk)⟩
def askD (b : DBook) (on : List Place) : Int := bif !(isStowD b on) then 31 else 0
theorem asked_no_calls (g0 g1 : Value) (b : DBook) (on : List Place) (w : World) (r0 : Reads w g0 3 b.loads encLoad zLoad) (r1 : Reads w g1 2 on encPlace zPlace) (hnb : NobodyAt w) (hq : (checkD b == 0) = false) : Calls Tryd.prog 85 #[.agg #[g0, iv b.rule, iv b.most], g1] w fun e w' => e = .returned (.tuple #[.agg #[.slice none 0 0, iv 0, iv 0, .map none], iv (checkD b)]) ∧ Below w.heap.size w w' := by
  refine calls_of_WP (cx := cx0 w (vn [g0, g1]) 2) (n := vn [g0, g1]) (vs := [.g [.ref 0, .int .i64 b.rule, .int .i64 b.most], .s (.ref 1)]) (hp := [(0, .sl .ro 61 3 b.loads encLoad zLoad), (1, .sl .ro 65 2 on encPlace zPlace), (2, .pf NobodyAt (· = 1))]) (nx := 3) tt_ok Tryd.func85 rfl rfl rfl (by kernel_rfl) (HSat_args (vn_one (by simp [r0.one, r1.one])) (by decide) ⟨⟨⟨fun _ => rfl, by decide, r0⟩, (Nat.le_of_ble_eq_true rfl)⟩, ⟨⟨fun _ => rfl, by decide, r1⟩, (Nat.le_of_ble_eq_true rfl)⟩, ⟨⟨hnb, fun w1 w2 h1 hw => (hw 1 rfl).trans h1, fun g hg => by cases hg; exact (Array.getElem?_eq_some_iff.1 hnb).1⟩, (Nat.le_of_ble_eq_true rfl)⟩, trivial⟩) (vsOk (by kernel_rfl)) ?_
  have hl0 := Reads.len r0
  have hl1 := Reads.len r1
  refine WP_seq (WP_region (WPO_all tt_ok (by kernel_rfl) ?_))
  refine WP_seq (WP_seq (WP_region (WPO_run tt_ok 1 (by kernel_rfl) ?_)))
  refine CALL 66 [.g [.ref 0, .int .i64 b.rule, .int .i64 b.most]] (.s (.int .i64 (checkD b))) [] (by kernel_rfl) (goes_of (by kernel_rfl)) (by kernel_rfl) (by kernel_rfl) (fun _ nV w h => checkD_calls (nV 0) b w (h.reads (id := 0) (kd := .ro) (e := 61) (by kernel_rfl)) ) ?_
  refine WPO_all tt_ok (by kernel_rfl) ?_
  refine WP_seq (WP_region (WPO_all tt_ok (by kernel_rfl) ?_))
  refine WP_cond ((checkD b) != 0) (by kernel_rfl) (fun hc1 => ?_) (fun h => by rw [(show ((checkD b) != 0) = true from by rw [bne, hq]; rfl)] at h; cases h)
  refine WP_seq (WP_region (WPO_all tt_ok (by kernel_rfl) ?_))
  refine WP_ret ?_
  exact ⟨.t [(true, [.v (.slice none 0 0), .int .i64 0, .int .i64 0, .v (.map none)]), (false, [.int .i64 (checkD b)])], by kernel_rfl, fun nV w' h => ⟨rfl, h.bel⟩⟩
theorem asked_yes_calls (g0 g1 : Value) (b : DBook) (on : List Place) (w : World) (r0 : Reads w g0 3 b.loads encLoad zLoad) (r1 : Reads w g1 2 on encPlace zPlace) (hnb : NobodyAt w) (hq1 : checkD b = 0) : Calls Tryd.prog 85 #[.agg #[g0, iv b.rule, iv b.most], g1] w fun e w' => ∃ gm, e = .returned (.tuple #[.agg #[g0, iv b.rule, iv b.most, .map (some gm)], iv (askD b on)]) ∧ Below w.heap.size w w' ∧ w.heap.size ≤ gm ∧ w'.heap[gm]? = some (.map (ents (plL b) plKey plVal) (plL b).length) := by
  refine calls_of_WP (cx := cx0 w (vn [g0, g1]) 2) (n := vn [g0, g1]) (vs := [.g [.ref 0, .int .i64 b.rule, .int .i64 b.most], .s (.ref 1)]) (hp := [(0, .sl .ro 61 3 b.loads encLoad zLoad), (1, .sl .ro 65 2 on encPlace zPlace), (2, .pf NobodyAt (· = 1))]) (nx := 3) tt_ok Tryd.func85 rfl rfl rfl (by kernel_rfl) (HSat_args (vn_one (by simp [r0.one, r1.one])) (by decide) ⟨⟨⟨fun _ => rfl, by decide, r0⟩, (Nat.le_of_ble_eq_true rfl)⟩, ⟨⟨fun _ => rfl, by decide, r1⟩, (Nat.le_of_ble_eq_true rfl)⟩, ⟨⟨hnb, fun w1 w2 h1 hw => (hw 1 rfl).trans h1, fun g hg => by cases hg; exact (Array.getElem?_eq_some_iff.1 hnb).1⟩, (Nat.le_of_ble_eq_true rfl)⟩, trivial⟩) (vsOk (by kernel_rfl)) ?_
  have hl0 := Reads.len r0
  have hl1 := Reads.len r1
  have hv := checkD_valid.1 hq1
  have hb5 := hv.n.2
  refine WP_seq (WP_region (WPO_all tt_ok (by kernel_rfl) ?_))
  refine WP_seq (WP_seq (WP_region (WPO_run tt_ok 1 (by kernel_rfl) ?_)))
  refine CALL 66 [.g [.ref 0, .int .i64 b.rule, .int .i64 b.most]] (.s (.int .i64 (checkD b))) [] (by kernel_rfl) (goes_of (by kernel_rfl)) (by kernel_rfl) (by kernel_rfl) (fun _ nV w h => checkD_calls (nV 0) b w (h.reads (id := 0) (kd := .ro) (e := 61) (by kernel_rfl)) ) ?_
  refine WPO_all tt_ok (by kernel_rfl) ?_
  refine WP_seq (WP_region (WPO_all tt_ok (by kernel_rfl) ?_))
  refine WP_cond ((checkD b) != 0) (by kernel_rfl) (fun h => by rw [(show ((checkD b) != 0) = false from by rw [hq1]; rfl)] at h; cases h) (fun hc1 => ?_)
  refine WP_skip ?_
  refine WP_seq (WP_region (WPO_run tt_ok 1 (by kernel_rfl) ?_))
  refine CALLMAP 90 [.g [.ref 0, .int .i64 b.rule, .int .i64 b.most]] (plL b) plKey plVal (fun gM1 => .g [.ref 0, .int .i64 b.rule, .int .i64 b.most, .v (.map (some gM1))]) (by kernel_rfl) (goes_of (by kernel_rfl)) (fun _ => (by kernel_rfl)) (fun _ => (by kernel_rfl)) (fun _ n n' h => by simp only [AV.c, cellsV, part1, AC.c, List.map_cons, List.map_nil, h 0 (by show 0 < 5; decide)]) (fun nV w h => opened_plL (nV 0) b w (h.reads (id := 0) (kd := .ro) (e := 61) (by kernel_rfl)) (h.ents (2, .pf NobodyAt (· = 1)) (fnd_mem (by kernel_rfl))).1 (by first | assumption | omega)) (fun gM1 => ?_)
  refine WPO_all tt_ok (by kernel_rfl) ?_
  refine WP_seq (WP_seq (WP_region (WPO_run tt_ok 2 (by kernel_rfl) ?_)))
  refine CALL 116 [.g [.ref 0, .int .i64 b.rule, .int .i64 b.most, .v (.map (some gM1))], .s (.ref 1)] (.s (.bool (isStowD b on))) [] (by kernel_rfl) (goes_of (by kernel_rfl)) (by kernel_rfl) (by kernel_rfl) (fun _ nV w h => isStowD_calls (nV 0) (nV 1) gM1 b on w (h.reads (id := 0) (kd := .ro) (e := 61) (by kernel_rfl)) (h.reads (id := 1) (kd := .ro) (e := 65) (by kernel_rfl)) (h.ents (5, mapE gM1 (plL b) plKey plVal) (fnd_mem (by kernel_rfl))).1 (h.ents (2, .pf NobodyAt (· = 1)) (fnd_mem (by kernel_rfl))).1 (by first | assumption | omega)) ?_
  refine WPO_all tt_ok (by kernel_rfl) ?_
  refine WP_cond (!(isStowD b on)) (by kernel_rfl) (fun hc3 => ?_) (fun hc3 => ?_)
  · have hc3' := hc3; try simp only [Bool.and_eq_true, Bool.or_eq_true, Bool.and_eq_false_iff, Bool.or_eq_false_iff, Bool.not_eq_true', Bool.not_eq_false', decide_eq_true_eq, decide_eq_false_iff_not, beq_iff_eq, beq_eq_false_iff_ne, bne_iff_ne, bne_eq_false_iff_eq, ne_eq] at hc3'
    refine WP_seq (WP_region (WPO_all tt_ok (by kernel_rfl) ?_))
    refine WP_ret ?_
    exact ⟨.t [(true, [.ref 0, .int .i64 b.rule, .int .i64 b.most, .v (.map (some gM1))]), (false, [.int .i64 31])], by kernel_rfl, fun nV w' h => ⟨gM1, by have e0 : nV 0 = g0 := h.ini 0 (by show 0 < 2; decide); rw [show askD b on = 31 from by unfold askD; simp only [hc1, hc3, cond_true, cond_false], ← e0]; rfl, h.bel, (h.ents (5, mapE gM1 (plL b) plKey plVal) (fnd_mem (by kernel_rfl))).2.1 gM1 rfl, (h.ents (5, mapE gM1 (plL b) plKey plVal) (fnd_mem (by kernel_rfl))).1⟩⟩
  have hc3' := hc3; try simp only [Bool.and_eq_true, Bool.or_eq_true, Bool.and_eq_false_iff, Bool.or_eq_false_iff, Bool.not_eq_true', Bool.not_eq_false', decide_eq_true_eq, decide_eq_false_iff_not, beq_iff_eq, beq_eq_false_iff_ne, bne_iff_ne, bne_eq_false_iff_eq, ne_eq] at hc3'
  refine WP_skip ?_
  refine WP_seq (WP_region (WPO_all tt_ok (by kernel_rfl) ?_))
  refine WP_ret ?_
  exact ⟨.t [(true, [.ref 0, .int .i64 b.rule, .int .i64 b.most, .v (.map (some gM1))]), (false, [.int .i64 0])], by kernel_rfl, fun nV w' h => ⟨gM1, by have e0 : nV 0 = g0 := h.ini 0 (by show 0 < 2; decide); rw [show askD b on = 0 from by unfold askD; simp only [hc1, hc3, cond_true, cond_false], ← e0]; rfl, h.bel, (h.ents (5, mapE gM1 (plL b) plKey plVal) (fnd_mem (by kernel_rfl))).2.1 gM1 rfl, (h.ents (5, mapE gM1 (plL b) plKey plVal) (fnd_mem (by kernel_rfl))).1⟩⟩
end Go.Proofs.YthfnedbpmdkdjaaDoor.D
namespace Go.Proofs.YthfnedbpmdkdjaaDoor.Eng
open Go Go.RowKit
set_option linter.unusedVariables false
set_option linter.unusedSimpArgs false
def gixA (tt : TT) (ops : Array Oper) (s : AS) : List Oper → Option (AS × Int × Nat × List (Bool × Bool))
  | o :: _ => match o.op, gTag s ops o with
    | .indexAddr t x ix, some T => match ev s T x, ev s T ix with
      | some (.s (.v (.pointer (some ⟨g, off, none⟩)))), some (.s (.int _ i)) => match tyL tt t with
        | some ⟨_, _, _, .array m e⟩ => match tyL tt e with
          | some ei => (s.put o.dst T (.s (.v (.pointer (some ⟨g, off + i.toNat * ei.size, none⟩))))).map fun s' => (s', i, m, tagL s T)
          | none => none
        | _ => none
      | _, _ => none
    | _, _ => none
  | [] => none
abbrev jT (p : Prop) : HE := .jf (fun _ => p) (fun _ => False)
section
variable {P : Program} {tt : TT} {cx : Cx} {s s0 s' : AS} {Q : Exit → AS → Prop} {ops : Array Oper} {l : List Oper}
theorem gix_sound (hT : TTok P tt) {r : AS × Int × Nat × List (Bool × Bool)} (h : gixA tt ops s l = some r) : ∃ (o : Oper) (rest : List Oper) (T : List (Nat × Bool)) (c : AC), l = o :: rest ∧ gTag s ops o = some T ∧ s.put o.dst T (.s c) = some r.1 ∧ r.2.2.2 = tagL s T ∧
    (0 ≤ r.2.1 ∧ r.2.1 < (r.2.2.1 : Int) → ∀ (cx : Cx) n a w, HSat cx n s w → (∀ x ∈ s.env, EntOk n s a x) → Holds a T → (∀ w1, (execOp a.eval o).run P w1 = .ok (.value ((AV.s c).c n)) w1) ∧ (AV.s c).ok s) := by
  cases l with
  | nil => cases h
  | cons o rest =>
    simp only [gixA] at h
    split at h <;> try (cases h; done)
    rename_i t x ix T ho hg
    split at h <;> try (cases h; done)
    rename_i g off k i hx hi
    split at h <;> try (cases h; done)
    rename_i z1 b1 zv m e ht
    split at h <;> try (cases h; done)
    rename_i ei hei
    obtain ⟨s', hs', rfl⟩ := Option.map_eq_some_iff.1 h
    refine ⟨o, rest, T, _, rfl, hg, hs', rfl, fun h0 cx n a w hh henv hH => ?_⟩
    obtain ⟨F⟩ := hT.get ht
    obtain ⟨G⟩ := hT.get hei
    have hd : F.desc = .array m e := by
      have := F.td
      cases hd : F.desc <;> rw [hd] at this <;> simp only [tdOf] at this <;> first
        | (cases this; done)
        | (injection this with h1 h2; rw [h1, h2])
    obtain ⟨e1, e3⟩ := ev_sound henv hH hx
    obtain ⟨e2, _⟩ := ev_sound henv hH hi
    simp only [AV.c, AC.c] at e1 e2
    refine ⟨fun w1 => ?_, trivial⟩
    unfold execOp
    rw [ho]
    simp only at h0
    simp only [Instr.indexAt, e1, e2, asIntOf, Sem.run_bind, Sem.run_pure, Result.andThen_ok, run_underlying F.hdesc, hd, Instr.sureAddr]
    rw [if_pos h0]
    simp only [Sem.run_bind, run_sizeOf' G, Result.andThen_ok, Sem.run_pure, AV.c, AC.c, add_pl]
theorem H_GIX (hT : TTok P tt) (i : Nat) (x : Int) (m : Nat) (G : List (Bool × Bool)) {fuel : Nat} {listed : Array Bool} (h : (gixA tt ops s (opAt ops i)).map (·.2) = some (x, m, G)) (h0 : AllEq G → 0 ≤ x ∧ x < (m : Int)) (hs : Region.noSelect ops = true) (hb : takB ops listed i = true)
    (hK : WPH P cx ops s0 fuel (listed.setIfInBounds i true) (((gixA tt ops s (opAt ops i)).map (·.1)).getD s) Q) : WPH P cx ops s0 (fuel + 1) listed s Q := by
  obtain ⟨⟨s', i', m', G'⟩, hr, he⟩ := Option.map_eq_some_iff.1 h
  simp only [Prod.mk.injEq] at he
  obtain ⟨rfl, rfl, rfl⟩ := he
  obtain ⟨o, rest, T, c, hl, hg, hs', hG, hrun⟩ := gix_sound (P := P) hT hr
  simp only at hG hs' hrun
  rw [hr] at hK
  exact H_takef i (opAt_cons hl) hg hs' (fun hp cx n a w hh henv hH => hrun (h0 (by rw [hG]; exact tagP_all hp)) cx n a w hh henv hH) hs hb hK
theorem Le_addT (p : Prop) (hp : p) : Le cx s (s.add (jT p)) := fun n a w hs =>
  ⟨_, env_add hs (upd_lt n s.nx .nilFunc) (hs.heap.add (e := jT p) (v := .nilFunc) (Below.refl _ w) rfl ⟨hp, fun g hg => hg.elim, fun _ _ _ _ => hp⟩ trivial (fun g hg => hg.elim) (fun g hg => hg.elim))⟩
theorem Le_T {id : Nat} {p : Prop} (q : Prop) (hf : fnd s.hp id = some (jT p)) (h : p → q) : Le cx s { s with hp := rep s.hp id (jT q) } := fun n a w hs => by
  have h0 := hs.heap.ents _ (fnd_mem hf)
  exact ⟨n, hs.weak hf (fun h => h) (fun g hg => hg) (Nat.le_refl _) ⟨h h0.1, fun g hg => hg.elim, fun _ _ _ _ => h h0.1⟩ trivial⟩
theorem WP_T {id : Nat} {p : Prop} {c : Code} (hf : fnd s.hp id = some (jT p)) (h : p → WP P cx s c Q) : WP P cx s c Q := WP_fact (fun n a w hs => (hs.heap.ents _ (fnd_mem hf)).1) h
end
end Go.Proofs.YthfnedbpmdkdjaaDoor.Eng
namespace Go.Proofs.YthfnedbpmdkdjaaDoor.D
open Go Go.RowKit Go.Proofs.YthfnedbpmdkdjaaDoor.Eng Go.Proofs.YthfnedbpmdkdjaaDoor.Cm
set_option linter.unusedVariables false
set_option linter.unusedSimpArgs false
set_option linter.unusedSectionVars false
def portD (l : Span) (w_ : Span) : Span :=
  (⟨IntKind.i64.wrap (l.lo + w_.lo), IntKind.i64.wrap (l.hi + w_.hi)⟩ : Span)
theorem portD_calls  (l : Span) (w_ : Span) (w : World)   : Calls Tryd.prog 147 #[.agg #[iv l.lo, iv l.hi], .agg #[iv w_.lo, iv w_.hi]] w fun e w' => e = .returned (.agg #[iv (portD l w_).lo, iv (portD l w_).hi]) ∧ Below w.heap.size w w' := by
  refine calls_of_WP (cx := cx0 w Eng.n0 0) (n := Eng.n0) (vs := [.g [.int .i64 l.lo, .int .i64 l.hi], .g [.int .i64 w_.lo, .int .i64 w_.hi]]) (hp := []) (nx := 0) tt_ok Tryd.func147 rfl rfl rfl (by kernel_rfl) (HSat0 _ _ _ _ _ _ (fun _ => rfl) (Nat.le_refl _)) (vsOk (by kernel_rfl)) ?_
  refine WP_seq (WP_region (WPO_all tt_ok (by kernel_rfl) ?_))
  refine WP_seq (WP_region (WPO_all tt_ok (by kernel_rfl) ?_))
  refine WP_ret ?_
  exact ⟨.g [.int .i64 (IntKind.i64.wrap (l.lo + w_.lo)), .int .i64 (IntKind.i64.wrap (l.hi + w_.hi))], by kernel_rfl, fun nV w' h => ⟨by rw [show portD l w_ = (⟨IntKind.i64.wrap (l.lo + w_.lo), IntKind.i64.wrap (l.hi + w_.hi)⟩ : Span) from rfl]; rfl, h.bel⟩⟩
def middleD (l : Span) (w_ : Span) : Span :=
  l
theorem middleD_calls  (l : Span) (w_ : Span) (w : World)   : Calls Tryd.prog 145 #[.agg #[iv l.lo, iv l.hi], .agg #[iv w_.lo, iv w_.hi]] w fun e w' => e = .returned (.agg #[iv (middleD l w_).lo, iv (middleD l w_).hi]) ∧ Below w.heap.size w w' := by
  refine calls_of_WP (cx := cx0 w Eng.n0 0) (n := Eng.n0) (vs := [.g [.int .i64 l.lo, .int .i64 l.hi], .g [.int .i64 w_.lo, .int .i64 w_.hi]]) (hp := []) (nx := 0) tt_ok Tryd.func145 rfl rfl rfl (by kernel_rfl) (HSat0 _ _ _ _ _ _ (fun _ => rfl) (Nat.le_refl _)) (vsOk (by kernel_rfl)) ?_
  refine WP_seq (WP_region (WPO_all tt_ok (by kernel_rfl) ?_))
  refine WP_seq (WP_region (WPO_all tt_ok (by kernel_rfl) ?_))
  refine WP_ret ?_
  exact ⟨.g [.int .i64 l.lo, .int .i64 l.hi], by kernel_rfl, fun nV w' h => ⟨by rw [show middleD l w_ = l from rfl]; rfl, h.bel⟩⟩
def starD (l : Span) (w_ : Span) : Span :=
  (⟨IntKind.i64.wrap (l.lo - w_.hi), IntKind.i64.wrap (l.hi - w_.lo)⟩ : Span)
theorem starD_calls  (l : Span) (w_ : Span) (w : World)   : Calls Tryd.prog 148 #[.agg #[iv l.lo, iv l.hi], .agg #[iv w_.lo, iv w_.hi]] w fun e w' => e = .returned (.agg #[iv (starD l w_).lo, iv (starD l w_).hi]) ∧ Below w.heap.size w w' := by
  refine calls_of_WP (cx := cx0 w Eng.n0 0) (n := Eng.n0) (vs := [.g [.int .i64 l.lo, .int .i64 l.hi], .g [.int .i64 w_.lo, .int .i64 w_.hi]]) (hp := []) (nx := 0) tt_ok Tryd.func148 rfl rfl rfl (by kernel_rfl) (HSat0 _ _ _ _ _ _ (fun _ => rfl) (Nat.le_refl _)) (vsOk (by kernel_rfl)) ?_
  refine WP_seq (WP_region (WPO_all tt_ok (by kernel_rfl) ?_))
  refine WP_seq (WP_region (WPO_all tt_ok (by kernel_rfl) ?_))
  refine WP_ret ?_
  exact ⟨.g [.int .i64 (IntKind.i64.wrap (l.lo - w_.hi)), .int .i64 (IntKind.i64.wrap (l.hi - w_.lo))], by kernel_rfl, fun nV w' h => ⟨by rw [show starD l w_ = (⟨IntKind.i64.wrap (l.lo - w_.hi), IntKind.i64.wrap (l.hi - w_.lo)⟩ : Span) from rfl]; rfl, h.bel⟩⟩
def LanesAt (w : World) : Prop := w.heap[0]? = some (.cells #[.func (.func 147) #[] #[], .func (.func 145) #[] #[], .func (.func 148) #[] #[]] 127 (0, 0))
def laneK (i : Int) : Nat := if i = 0 then 147 else if i = 1 then 145 else 148
def laneF (i : Int) (l x : Span) : Span := if i = 0 then portD l x else if i = 1 then middleD l x else starD l x
theorem lane_goes (i : Int) : goes Tryd.prog (laneK i) := by
  unfold laneK
  split
  · exact goes_of (by kernel_rfl)
  · split
    · exact goes_of (by kernel_rfl)
    · exact goes_of (by kernel_rfl)
theorem lane_calls (i : Int) (l x : Span) (w : World) : Calls Tryd.prog (laneK i) #[.agg #[iv l.lo, iv l.hi], .agg #[iv x.lo, iv x.hi]] w fun e w' => e = .returned (.agg #[iv (laneF i l x).lo, iv (laneF i l x).hi]) ∧ Below w.heap.size w w' := by
  unfold laneK laneF
  by_cases h0 : i = 0
  · rw [if_pos h0, if_pos h0]; exact portD_calls l x w
  · rw [if_neg h0, if_neg h0]
    by_cases h1 : i = 1
    · rw [if_pos h1, if_pos h1]; exact middleD_calls l x w
    · rw [if_neg h1, if_neg h1]; exact starD_calls l x w
theorem lane_sub {i : Int} (h : 0 ≤ i ∧ i < 3) : ((tyL tt 126).bind fun z => sub [.v (.func (.func 147) #[] #[]), .v (.func (.func 145) #[] #[]), .v (.func (.func 148) #[] #[])] (0 + i.toNat * 1) z.size z.d.ag) = some (.s (.v (.func (.func (laneK i)) #[] #[]))) := by
  obtain ⟨h1, h2⟩ := h
  have : i = 0 ∨ i = 1 ∨ i = 2 := by omega
  rcases this with h | h | h <;> (subst h; unfold laneK; exact (rfl : _ = _))
def stepD (b : DBook) (l : Span) (x : Place) : Span := laneF x.lane l (b.loads.getD x.load.toNat zLoad).w
def accD (b : DBook) (on : List Place) (k : Nat) : Span := (on.take k).foldl (stepD b) zSpan
def itD (b : DBook) (on : List Place) (k : Nat) : Int × Span := ((k : Int), accD b on (k + 1))
def preD (b : DBook) (on : List Place) (k : Nat) : List (Int × Span) := (List.range k).map (itD b on)
def listsD (b : DBook) (on : List Place) : List (Int × Span) := preD b on on.length
theorem accD_succ {b : DBook} {on : List Place} {k : Nat} (h : k < on.length) : accD b on (k + 1) = stepD b (accD b on k) (on.getD k zPlace) := by
  unfold accD
  rw [List.take_add_one, List.getElem?_eq_getElem h, List.foldl_append, List.getD_eq_getElem?_getD, List.getElem?_eq_getElem h]
  rfl
theorem preD_succ (b : DBook) (on : List Place) (k : Nat) : preD b on (k + 1) = preD b on k ++ [itD b on k] := by
  unfold preD
  rw [List.range_succ, List.map_append]; rfl
theorem preD_prefix {b : DBook} {on : List Place} {k : Nat} (h : k ≤ on.length) : preD b on k <+: listsD b on := by
  unfold listsD preD
  refine List.IsPrefix.map _ ?_
  exact List.prefix_iff_eq_take.2 (by rw [List.length_range, List.take_range]; congr 1; omega)
def PlacesD (b : DBook) (on : List Place) : Prop := ∀ x ∈ on, (0 ≤ x.load ∧ x.load < b.loads.length) ∧ (0 ≤ x.lane ∧ x.lane < 3)
def encY (x : Int × Span) : Array Value := #[iv x.1, .agg #[iv x.2.lo, iv x.2.hi]]
end Go.Proofs.YthfnedbpmdkdjaaDoor.D
namespace Go.Proofs.YthfnedbpmdkdjaaDoor.Eng
open Go Go.RowKit
set_option linter.unusedVariables false
set_option linter.unusedSimpArgs false
theorem loopR_keep {σ ρ : Type} {c : Nat → σ → Bool} {b : Nat → σ → Bd σ ρ} {N : Nat} (P : Nat → σ → Prop) (Q : ρ → Prop) (hc : ∀ k v, k < N → P k v → c k v = true)
    (hb : ∀ k v, k < N → P k v → (∃ v', b k v = .go v' ∧ P (k + 1) v') ∨ (∃ r, b k v = .ret r ∧ Q r)) (v0 : σ) (h0 : P 0 v0) : (∃ v, loopR c b N 0 v0 = .brk v ∧ P N v) ∨ (∃ r, loopR c b N 0 v0 = .ret r ∧ Q r) := by
  have key : ∀ (m k : Nat) (v : σ), k + m = N → P k v → (∃ v', loopR c b (N - k) k v = .brk v' ∧ P N v') ∨ (∃ r, loopR c b (N - k) k v = .ret r ∧ Q r) := by
    intro m
    induction m with
    | zero => intro k v h hp; left; refine ⟨v, by rw [show N - k = 0 by omega]; rfl, ?_⟩; rw [← show k = N by omega]; exact hp
    | succ m ih =>
      intro k v h hp
      have hk : k < N := by omega
      rw [loopR_step hk (hc k v hk hp)]
      rcases hb k v hk hp with ⟨v', e, hp'⟩ | ⟨r, e, hq⟩
      · rw [e]; exact ih (k + 1) v' (by omega) hp'
      · rw [e]; exact .inr ⟨r, rfl, hq⟩
  exact key N 0 v0 (by omega) h0
end Go.Proofs.YthfnedbpmdkdjaaDoor.Eng
