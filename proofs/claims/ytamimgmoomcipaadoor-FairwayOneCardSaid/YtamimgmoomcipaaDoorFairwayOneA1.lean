/- Parts of the proof of FairwayOne: the engine, contracts of functions, plain lemmas. -/
import Derived.Test.YtamimgmoomcipaaDoorFairwayOneA0
import Derived.ArgAppend
import Derived.Below
import Derived.ChangeKeysEq
import Derived.ControlIn
import Derived.Deep.Draws
import Derived.Deep.Quiet
import Derived.KernelRfl
import Derived.Laws.AppendOwn
import Derived.Laws.Cells
import Derived.Laws.CopyRow
import Derived.Laws.IdiomRangeMap
import Derived.Laws.Rows
import Derived.MapKept
import Derived.Maps.AppendAt
import Derived.OrdersHeld
import Derived.OrdersIn
import Derived.RangeFuncLeaves
import Derived.RangeFuncNested
import Derived.RangeFuncOwn
import Derived.Test.YtamimgmoomcipaaDoorProg
import Derived.WalkKit
import Derived.WideKeyRuns
namespace Go.Proofs.YtamimgmoomcipaaDoor.Eng
open Go Go.RowKit
set_option linter.unusedVariables false
set_option linter.unusedSimpArgs false
def isI64 (P : Program) (t : TypeId) : Bool := match P.underlying t with | some (.int .i64) => true | _ => false
def isBl (P : Program) (t : TypeId) : Bool := match P.underlying t with | some .bool => true | _ => false
theorem isI64_spec {P : Program} {t : TypeId} (h : isI64 P t = true) : P.underlying t = some (.int .i64) := by
  unfold isI64 at h
  split at h
  · assumption
  · cases h
theorem isBl_spec {P : Program} {t : TypeId} (h : isBl P t = true) : P.underlying t = some .bool := by
  unfold isBl at h
  split at h
  · assumption
  · cases h
def pair2 (P : Program) (t : TypeId) : Bool :=
  match P.underlying t with
  | some (.struct fs) => go fs.toList && !(P.stoodInHeld t) && !(P.eqGuardType P.depth t)
  | _ => false
where go : List Field → Bool
  | [f, g] => (f.name != "_") && (g.name != "_") && Nat.beq f.offset 0 && Nat.beq g.offset 1 && isI64 P f.type && isI64 P g.type
  | _ => false
def pairV (a b : Int) : Value := .agg #[.int .i64 a, .int .i64 b]
section
variable {P : Program} {t : TypeId}
theorem run_part_cell {e : TypeId} {w : World} {xs : Array Value} {off : Nat} {v : Value} (he : isI64 P e = true ∨ isBl P e = true) (hx : xs[off]? = some v) : (part e xs off).run P w = .ok v w := by
  refine run_part_plain w (he := ?_) hx
  unfold Program.plainKey
  rcases he with h | h
  · rw [isI64_spec h]
  · rw [isBl_spec h]
theorem pair2_spec (h : pair2 P t = true) : ∃ fs f g, P.underlying t = some (.struct fs) ∧ fs.toList = [f, g] ∧ f.name ≠ "_" ∧ g.name ≠ "_" ∧ f.offset = 0 ∧ g.offset = 1 ∧ isI64 P f.type = true ∧ isI64 P g.type = true ∧ P.stoodInHeld t = false ∧ P.eqGuardType P.depth t = false := by
  unfold pair2 at h
  split at h
  · rename_i fs hu
    simp only [Bool.and_eq_true, Bool.not_eq_true'] at h
    obtain ⟨⟨h1, h2⟩, h3⟩ := h
    unfold pair2.go at h1
    split at h1
    · rename_i f g hl
      simp only [Bool.and_eq_true, bne_iff_ne] at h1
      exact ⟨fs, f, g, hu, hl, h1.1.1.1.1.1, h1.1.1.1.1.2, Nat.eq_of_beq_eq_true h1.1.1.1.2, Nat.eq_of_beq_eq_true h1.1.1.2, h1.1.2, h1.2, h2, h3⟩
    · cases h1
  · cases h
theorem run_eq_pair (h : pair2 P t = true) (d : Nat) (a b c e : Int) (w : World) : (Op.equalIn (d + 2) t (pairV a b) (pairV c e)).run P w = .ok (a == c && b == e) w := by
  obtain ⟨fs, f, g, hu, hl, n1, n2, o1, o2, i1, i2, hp, _⟩ := pair2_spec h
  have hf : P.fieldsOf t = fs := by unfold Program.fieldsOf; rw [hu]
  unfold pairV
  rw [run_equalIn_struct w (d + 1) t _ _ (by rw [hf]; exact hu) hp, hf, hl]
  simp only [Op.eqFields, ne_eq, n1, n2, not_false_eq_true, if_true, Sem.run_bind]
  rw [run_part_cell (v := .int .i64 a) (.inl i1) (by rw [o1]; rfl)]
  simp only [Result.andThen_ok]
  rw [run_part_cell (v := .int .i64 c) (.inl i1) (by rw [o1]; rfl)]
  simp only [Result.andThen_ok]
  rw [run_equalIn_int w d _ _ _ _ _ (isI64_spec i1)]
  simp only [Result.andThen_ok]
  cases hac : (a == c)
  · simp
  · simp only [Bool.not_true, Bool.false_eq_true, if_false, Sem.run_bind]
    rw [run_part_cell (v := .int .i64 b) (.inl i2) (by rw [o2]; rfl)]
    simp only [Result.andThen_ok]
    rw [run_part_cell (v := .int .i64 e) (.inl i2) (by rw [o2]; rfl)]
    simp only [Result.andThen_ok]
    rw [run_equalIn_int w d _ _ _ _ _ (isI64_spec i2)]
    simp only [Result.andThen_ok]
    cases hbe : (b == e) <;> simp
def arrOf (P : Program) (leaf : TypeId → Bool) (t : TypeId) (n : Nat) : Bool :=
  match P.underlying t with
  | some (.array m e) => Nat.beq m n && leaf e && (match P.info? e with | some i => Nat.beq (P.cellsOf e) 1 | none => false) && !(P.eqGuardType P.depth t)
  | _ => false
theorem arrOf_spec {leaf : TypeId → Bool} {n : Nat} (h : arrOf P leaf t n = true) : ∃ e i, P.underlying t = some (.array n e) ∧ leaf e = true ∧ P.info? e = some i ∧ P.cellsOf e = 1 ∧ P.eqGuardType P.depth t = false := by
  unfold arrOf at h
  split at h
  · rename_i m e hu
    simp only [Bool.and_eq_true, Bool.not_eq_true'] at h
    obtain ⟨⟨⟨h1, h2⟩, h3⟩, h4⟩ := h
    split at h3
    · rename_i i hi
      exact ⟨e, i, by rw [hu, Nat.eq_of_beq_eq_true h1], h2, hi, Nat.eq_of_beq_eq_true h3, h4⟩
    · cases h3
  · cases h
theorem run_eqItems {d : Nat} {e : TypeId} {α : Type} [BEq α] (mk : α → Value) (he : isI64 P e = true ∨ isBl P e = true) (hq : ∀ (x y : α) (w : World), (Op.equalIn d e (mk x) (mk y)).run P w = .ok (x == y) w) (xs ys : List α) (w : World) (hl : xs.length = ys.length) :
    (Op.eqItems d e 1 (xs.map mk).toArray (ys.map mk).toArray (List.range xs.length)).run P w = .ok (xs == ys) w := by
  have key : ∀ (k : Nat) (a b : List α), a = xs.drop k → b = ys.drop k → k + a.length = xs.length → (Op.eqItems d e 1 (xs.map mk).toArray (ys.map mk).toArray (List.range' k a.length)).run P w = .ok (a == b) w := by
    intro k a
    induction a generalizing k with
    | nil =>
      intro b ha hb hk
      have : b = [] := by rw [hb]; apply List.drop_eq_nil_of_le; simp at hk; omega
      subst this
      simp [Op.eqItems]
    | cons x a ih =>
      intro b ha hb hk
      simp only [List.length_cons] at hk
      cases b with
      | nil =>
        have := congrArg List.length hb
        simp at this
        omega
      | cons y b =>
        have hx : xs[k]? = some x := by
          have := congrArg (·[0]?) ha
          simpa using this.symm
        have hy : ys[k]? = some y := by
          have := congrArg (·[0]?) hb
          simpa using this.symm
        simp only [List.length_cons, List.range'_succ, Op.eqItems, Sem.run_bind, Nat.mul_one]
        rw [run_part_cell (v := mk x) he (by simp [hx])]
        simp only [Result.andThen_ok]
        rw [run_part_cell (v := mk y) he (by simp [hy])]
        simp only [Result.andThen_ok, hq]
        cases hxy : (x == y)
        · simp [hxy]
        · simp only [Bool.not_true, Bool.false_eq_true, if_false]
          rw [ih (k + 1) b (by have := congrArg List.tail ha; simpa using this) (by have := congrArg List.tail hb; simpa using this) (by omega)]
          simp [hxy]
  have := key 0 xs ys rfl rfl (by simp)
  rwa [← List.range_eq_range'] at this
theorem run_eq_arrB {n : Nat} (h : arrOf P (isBl P) t n = true) (d : Nat) (xs ys : List Bool) (w : World) (hx : xs.length = n) (hy : ys.length = n) : (Op.equalIn (d + 2) t (.agg (xs.map Value.bool).toArray) (.agg (ys.map Value.bool).toArray)).run P w = .ok (xs == ys) w := by
  obtain ⟨e, i, hu, hl, hi, hc, _⟩ := arrOf_spec h
  rw [run_equalIn_array w (d + 1) _ _ hu hi, hc, ← hx]
  exact run_eqItems _ (.inr hl) (fun x y w => run_equalIn_bool w d e x y (isBl_spec hl)) xs ys w (hx.trans hy.symm)
end
section
variable {P : Program} {tt : TT} {cx : Cx} {s s' : AS} {Q : Exit → AS → Prop} {ops : Array Oper} {l : List Oper} {t : TypeId} {x y : Operand}
theorem bin_agg {xs ys : Array Value} {b : Bool} {w : World} (hg : P.eqGuardType P.depth t = false) (h : (Op.equalIn 10000 t (.agg xs) (.agg ys)).run P w = .ok b w) :
    (do eqGuard .eql t x y (.agg xs) (.agg ys); binOp .eql t (.agg xs) (.agg ys) : Sem Value).run P w = .ok (.bool b) w ∧ (do eqGuard .neq t x y (.agg xs) (.agg ys); binOp .neq t (.agg xs) (.agg ys) : Sem Value).run P w = .ok (.bool (!b)) w := by
  constructor <;>
    rw [Sem.run_bind, run_eqGuard_agg w _ t x y xs ys hg] <;>
    simp only [Result.andThen_ok]
  · rw [run_eql_struct, h]; rfl
  · rw [run_neq_struct, h]; rfl
theorem BinOk_pair (h : pair2 P t = true) (a b c d : Int) : BinOk P cx s .eql t x y (.g [.int .i64 a, .int .i64 b]) (.g [.int .i64 c, .int .i64 d]) (.s (.bool (a == c && b == d))) := fun n w _ => by
  obtain ⟨_, _, _, _, _, _, _, _, _, _, _, _, hg⟩ := pair2_spec h
  exact (bin_agg hg (run_eq_pair h 9998 a b c d w)).1
theorem BinOk_pairN (h : pair2 P t = true) (a b c d : Int) : BinOk P cx s .neq t x y (.g [.int .i64 a, .int .i64 b]) (.g [.int .i64 c, .int .i64 d]) (.s (.bool (!(a == c && b == d)))) := fun n w _ => by
  obtain ⟨_, _, _, _, _, _, _, _, _, _, _, _, hg⟩ := pair2_spec h
  exact (bin_agg hg (run_eq_pair h 9998 a b c d w)).2
theorem cells_bools (n : Vn) (xs : List Bool) : cellsV n (xs.map AC.bool) = (xs.map Value.bool).toArray := by simp [cellsV, Function.comp_def, AC.c]
theorem BinOk_arrB {m : Nat} (h : arrOf P (isBl P) t m = true) {xs ys : List Bool} (hx : xs.length = m) (hy : ys.length = m) : BinOk P cx s .eql t x y (.g (xs.map AC.bool)) (.g (ys.map AC.bool)) (.s (.bool (xs == ys))) ∧ BinOk P cx s .neq t x y (.g (xs.map AC.bool)) (.g (ys.map AC.bool)) (.s (.bool (!(xs == ys)))) := by
  obtain ⟨_, _, _, _, _, _, hg⟩ := arrOf_spec h
  constructor <;> intro n w _ <;> simp only [AV.c, cells_bools]
  · exact (bin_agg hg (run_eq_arrB h 9998 xs ys w hx hy)).1
  · exact (bin_agg hg (run_eq_arrB h 9998 xs ys w hx hy)).2
theorem check_pair (h : pair2 P t = true) (a b : Int) (w : World) : (Instr.checkKey false 10000 t (pairV a b)).run P w = .ok () w := by
  obtain ⟨fs, f, g, hu, hl, n1, n2, o1, o2, i1, i2, hp, _⟩ := pair2_spec h
  have hint : ∀ (d : Nat) (e : TypeId) (v : Int) (w : World), isI64 P e = true → (Instr.checkKey false (d + 1) e (.int .i64 v)).run P w = .ok () w := fun d e v w he => by
    unfold Instr.checkKey
    simp only [Sem.run_bind, run_underlying (isI64_spec he), Result.andThen_ok, Sem.run_pure]
  unfold pairV Instr.checkKey
  simp only [Sem.run_bind, run_underlying hu, Result.andThen_ok]
  rw [← Array.forIn_toList, hl]
  simp only [List.forIn_cons, List.forIn_nil, ne_eq, n1, n2, not_false_eq_true, if_true, Sem.run_bind]
  rw [run_part_cell (v := .int .i64 a) (.inl i1) (by rw [o1]; rfl)]
  simp only [Result.andThen_ok, hint 9998 _ _ _ i1, Sem.run_pure, Sem.run_bind]
  rw [run_part_cell (v := .int .i64 b) (.inl i2) (by rw [o2]; rfl)]
  simp only [Result.andThen_ok, hint 9998 _ _ _ i2, Sem.run_pure]
theorem find_pair {κ : Type} (h : pair2 P t = true) (a b : Int) (key : κ → Int × Int) (ek ex : κ → Value) (hk : ∀ x, ek x = pairV (key x).1 (key x).2) (w : World) (L : List κ) :
    (Instr.findKey t (pairV a b) (ents L ek ex).toList).run P w = .ok ((L.zipIdx.find? fun z => (key z.1) == (a, b)).map fun z => (z.2, ex z.1)) w := by
  obtain ⟨fs, f, g, hu, hl, n1, n2, o1, o2, i1, i2, hp, _⟩ := pair2_spec h
  rw [run_findKey_eq w (by rw [hu])]
  simp only [ents]
  have hmap : (L.mapIdx fun i x => ({ key := ek x, val := ex x, born := i } : MapEntry)) = L.zipIdx.map fun z => { key := ek z.1, val := ex z.1, born := z.2 } := by
    rw [List.mapIdx_eq_zipIdx_map]
  rw [hmap]
  have key' : ∀ (M : List (κ × Nat)) (i : Nat), M = L.zipIdx.drop i → (Instr.findAsking t (pairV a b) (M.map fun z => ({ key := ek z.1, val := ex z.1, born := z.2 } : MapEntry)) i).run P w = .ok ((M.find? fun z => (key z.1) == (a, b)).map fun z => (z.2, ex z.1)) w := by
    intro M
    induction M with
    | nil => intro i _; simp [Instr.findAsking]
    | cons z M ih =>
      intro i hM
      have hz : z.2 = i := by
        have : (L.zipIdx.drop i)[0]? = some z := by rw [← hM]; rfl
        simp only [List.getElem?_drop, List.getElem?_zipIdx, Nat.add_zero, Nat.zero_add, Option.map_eq_some_iff] at this
        obtain ⟨q, _, rfl⟩ := this
        rfl
      rw [List.map_cons, Instr.findAsking, Sem.run_bind]
      have he : (Op.equal t (pairV a b) (ek z.1)).run P w = .ok (a == (key z.1).1 && b == (key z.1).2) w := by
        rw [hk]; exact run_eq_pair h 9998 _ _ _ _ w
      rw [he, List.find?_cons]
      simp only [Result.andThen_ok]
      have hb : (a == (key z.1).1 && b == (key z.1).2) = ((key z.1) == (a, b)) := by
        rcases hkk : key z.1 with ⟨p, q⟩
        simp only
        rw [Bool.eq_iff_iff]
        simp only [Bool.and_eq_true, beq_iff_eq, Prod.mk.injEq]
        exact ⟨fun h => ⟨h.1.symm, h.2.symm⟩, fun h => ⟨h.1.symm, h.2.symm⟩⟩
      rw [hb]
      cases hc : ((key z.1) == (a, b))
      · simp only [Bool.false_eq_true, if_false]
        exact ih (i + 1) (by have := congrArg List.tail hM; simpa using this)
      · simp [hz]
  exact key' L.zipIdx 0 rfl
theorem find_pair_none {κ : Type} (h : pair2 P t = true) (a b : Int) (key : κ → Int × Int) (ek ex : κ → Value) (hk : ∀ x, ek x = pairV (key x).1 (key x).2) (w : World) (L : List κ) (hn : ∀ x ∈ L, key x ≠ (a, b)) :
    (Instr.findKey t (pairV a b) (ents L ek ex).toList).run P w = .ok none w := by
  rw [find_pair h a b key ek ex hk w L, List.find?_eq_none.2]
  · rfl
  · intro z hz
    have := hn z.1 (by
      have := List.mem_zipIdx' hz
      rw [this.2]
      exact List.getElem_mem _)
    simpa using this
def bslA (tt : TT) (ops : Array Oper) (s : AS) : List Oper → Option (Nat × Nat × Nat × Nat × Int × Int × Int × List (Bool × Bool) × Option Tmp × List (Nat × Bool))
  | o :: _ => match o.op, gTag s ops o with
    | .slice t x lo hi mx, some T => match ev s T x, tyL tt t with
      | some (.s (.p id off)), some ⟨_, _, _, .array m e⟩ => match tyL tt e, bndT s T 0 lo, bndT s T m hi, bndT s T m mx with
        | some ei, some i, some j, some k => bif isBox (fnd s.hp id) && (mx.isNone || hi.isSome) then some (id, off, ei.size, m, i, j, k, tagL s T, o.dst, T) else none
        | _, _, _, _ => none
      | _, _ => none
    | _, _ => none
  | [] => none
where bndT (s : AS) (T : List (Nat × Bool)) (d : Int) : Option Operand → Option Int
  | none => some d
  | some x => match ev s T x with
    | some (.s (.int .i64 i)) => some i
    | _ => none
def bslP (tt : TT) (ops : Array Oper) (s : AS) (l : List Oper) : Option AS :=
  match bslA tt ops s l with
  | some (id, off, sz, m, i, j, k, _, d, T) => s.put d T (.s (.sb id off sz i.toNat j.toNat k.toNat))
  | none => none
theorem run_boundsA {m : Nat} {w : World} {lo hi mx : Option Value} {i j k : Int} (hlo : bv 0 lo i) (hhi : bv m hi j) (hmx : bv m mx k) (hx : mx.isNone || hi.isSome)
    (h : 0 ≤ i ∧ i ≤ j ∧ j ≤ k ∧ k ≤ m) : (Instr.sliceBounds false m m lo hi mx).run P w = .ok (i.toNat, j.toNat, k.toNat) w := by
  obtain ⟨h0, h1, h2, h3⟩ := h
  unfold Instr.sliceBounds
  have hsb : ∀ (x : Int) (y : Nat) (c : BoundsCode), 0 ≤ x → x ≤ y → (Instr.sliceBound (.int .i64 x) y c).run P w = .ok x.toNat w := fun x y c hx hy => by
    simp [Instr.sliceBound, asIntOf, hx, hy]
  cases mx with
  | none =>
    have hm : k = m := hmx
    cases hi with
    | none =>
      have hj : j = m := hhi
      cases lo with
      | none => have hi : i = 0 := hlo; simp [hi, hj, hm]
      | some v => have hi : v = .int .i64 i := hlo; subst hi; simp [hsb i m _ h0 (by omega), hj, hm]
    | some v =>
      have hj : v = .int .i64 j := hhi
      subst hj
      cases lo with
      | none => have hi : i = 0 := hlo; simp [hsb j m _ (by omega) (by omega), hi, hm]
      | some v => have hi : v = .int .i64 i := hlo; subst hi; simp [hsb j m _ (by omega) (by omega), hsb i j.toNat _ h0 (by omega), hm]
  | some v =>
    have hm : v = .int .i64 k := hmx
    subst hm
    cases hi with
    | none => cases hx
    | some v =>
      have hj : v = .int .i64 j := hhi
      subst hj
      cases lo with
      | none => have hi : i = 0 := hlo; simp [hsb k m _ (by omega) h3, hsb j k.toNat _ (by omega) (by omega), hi]
      | some v => have hi : v = .int .i64 i := hlo; subst hi; simp [hsb k m _ (by omega) h3, hsb j k.toNat _ (by omega) (by omega), hsb i j.toNat _ h0 (by omega)]
theorem bsl_sound (hT : TTok P tt) {r : Nat × Nat × Nat × Nat × Int × Int × Int × List (Bool × Bool) × Option Tmp × List (Nat × Bool)} (h : bslA tt ops s l = some r) :
    ∃ (o : Oper) (rest : List Oper), l = o :: rest ∧ gTag s ops o = some r.2.2.2.2.2.2.2.2.2 ∧ r.2.2.2.2.2.2.2.2.1 = o.dst ∧ r.2.2.2.2.2.2.2.1 = tagL s r.2.2.2.2.2.2.2.2.2 ∧
    (0 ≤ r.2.2.2.2.1 ∧ r.2.2.2.2.1 ≤ r.2.2.2.2.2.1 ∧ r.2.2.2.2.2.1 ≤ r.2.2.2.2.2.2.1 ∧ r.2.2.2.2.2.2.1 ≤ (r.2.2.2.1 : Int) → ∀ (cx : Cx) n a w, HSat cx n s w → (∀ x ∈ s.env, EntOk n s a x) → Holds a r.2.2.2.2.2.2.2.2.2 →
      (∀ w1, (execOp a.eval o).run P w1 = .ok (.value ((AC.sb r.1 r.2.1 r.2.2.1 r.2.2.2.2.1.toNat r.2.2.2.2.2.1.toNat r.2.2.2.2.2.2.1.toNat).c n)) w1) ∧ (AC.sb r.1 r.2.1 r.2.2.1 r.2.2.2.2.1.toNat r.2.2.2.2.2.1.toNat r.2.2.2.2.2.2.1.toNat).ok s) := by
  cases l with
  | nil => cases h
  | cons o rest =>
    simp only [bslA] at h
    split at h <;> try (cases h; done)
    rename_i t0 x0 lo hi mx T ho hg
    split at h <;> try (cases h; done)
    rename_i id off z1 b1 zv m e hx ht
    split at h <;> try (cases h; done)
    rename_i ei i j k hei hlo hhi hmx
    rcases hb : (isBox (fnd s.hp id) && (mx.isNone || hi.isSome)) with _ | _
    · rw [hb] at h; cases h
    · rw [hb] at h
      simp only [cond_true, Option.some.injEq] at h
      subst h
      simp only [Bool.and_eq_true] at hb
      refine ⟨o, rest, rfl, hg, rfl, rfl, fun h0 cx n a w hh henv hH => ?_⟩
      obtain ⟨F⟩ := hT.get ht
      obtain ⟨G⟩ := hT.get hei
      have hd : F.desc = .array m e := by
        have := F.td
        cases hd : F.desc <;> rw [hd] at this <;> simp only [tdOf] at this <;> first
          | (cases this; done)
          | (injection this with h1 h2; rw [h1, h2])
      obtain ⟨e1, e3⟩ := ev_sound henv hH hx
      obtain ⟨g, hv⟩ := box_addr hh hb.1
      simp only [AV.c, AC.c, hv, ptrAt] at e1
      have hbv : ∀ (d : Int) (q : Option Operand) (v : Int), bslA.bndT s T d q = some v → bv d (q.map a.eval) v := fun d q v hq => by
        cases q with
        | none => simp only [bslA.bndT, Option.some.injEq] at hq; exact hq.symm
        | some q =>
          simp only [bslA.bndT] at hq
          split at hq
          · rename_i v' hv'
            cases hq
            exact (ev_sound henv hH hv').1
          · cases hq
      refine ⟨fun w1 => ?_, e3⟩
      have hbs := run_boundsA (P := P) (w := w1) (hbv _ _ _ hlo) (hbv _ _ _ hhi) (hbv _ _ _ hmx) (by cases mx <;> cases hi <;> first | rfl | (simp at hb)) h0
      unfold execOp
      rw [ho]
      simp only [Instr.sliceAt, e1, Sem.run_bind, Sem.run_pure, Result.andThen_ok, run_underlying F.hdesc, hd, Instr.sureAddr, hbs, run_sizeOf' G, AC.c, hv, sbAt]
      congr 2
      by_cases hkl : k.toNat = i.toNat
      · rw [if_pos hkl, if_pos hkl]
      · rw [if_neg hkl, if_neg hkl, add_pl]
theorem QBSL (hT : TTok P tt) (i j k : Int) (m : Nat) (G : List (Bool × Bool)) (h : (bslA tt ops s l).map (fun z => (z.2.2.2.1, z.2.2.2.2.1, z.2.2.2.2.2.1, z.2.2.2.2.2.2.1, z.2.2.2.2.2.2.2.1)) = some (m, i, j, k, G)) (h0 : AllEq G → 0 ≤ i ∧ i ≤ j ∧ j ≤ k ∧ k ≤ (m : Int))
    (hp : (bslP tt ops s l).isSome = true) (hK : WPQ P cx ops l.tail ((bslP tt ops s l).getD s) Q) : WPQ P cx ops l s Q := by
  obtain ⟨r, hr, he⟩ := Option.map_eq_some_iff.1 h
  simp only [Prod.mk.injEq] at he
  obtain ⟨rfl, rfl, rfl, rfl, rfl⟩ := he
  obtain ⟨o, rest, rfl, hg, hd, hG, hrun⟩ := bsl_sound (P := P) hT hr
  obtain ⟨s', hs'⟩ := Option.isSome_iff_exists.1 hp
  rw [hs'] at hK
  simp only [bslP, hr, hd] at hs'
  exact WPQ_op hg hs' (fun hp n a w hh henv hH => (fun h => ⟨h.1 w, h.2⟩) (hrun (h0 (by rw [hG]; exact tagP_all hp)) cx n a w hh henv hH)) hK
theorem sb_reads {n : Vn} {w : World} (hh : HSat cx n s w) {id : Nat} {ty : TypeId} {cs : List AC} (hf : fnd s.hp id = some (.box ty cs)) {off i j k m : Nat} (h : i ≤ j ∧ j ≤ k ∧ k ≤ m) (hm : off + m ≤ cs.length) (hmx : m ≤ maxLen) {α : Type} (mk : α → AC) (mv : α → Value) (hmk : ∀ x, (mk x).c n = mv x) (xs : List α) (z : α) (hx : xs.length = j - i) (hcs : ∀ q, q < j - i → cs[off + i + q]? = (xs[q]?).map mk) :
    Reads w ((AC.sb id off 1 i j k).c n) 1 xs (fun x => [mv x]) z := by
  obtain ⟨g, hv, _, hheap⟩ := hh.ents _ (fnd_mem hf)
  simp only [AC.c, hv, sbAt]
  refine ⟨_, _, by rw [hx], by omega, by omega, fun hp => ⟨_, rfl, fun q hq o ho => ?_⟩⟩
  have hki : k ≠ i := by omega
  have ho0 : o = 0 := by omega
  subst ho0
  rw [if_neg hki]
  have hadd : (⟨g, off + i * 1, none⟩ : Addr).add (q * 1 + 0) = ⟨g, off + i + q, none⟩ := by
    unfold Addr.add
    split
    · rename_i h0; simp at h0; simp [h0]
    · simp
  rw [hadd, cell_of_row w g _ _ _ _ hheap]
  have := hcs q (by omega)
  rw [List.getElem?_eq_getElem hq] at this
  simp only [cellsV, List.getElem?_toArray, List.getElem?_map, this, Option.map_some, hmk]
  simp [List.getD_eq_getElem?_getD, List.getElem?_eq_getElem hq]
end
end Go.Proofs.YtamimgmoomcipaaDoor.Eng
namespace Go.Proofs.YtamimgmoomcipaaDoor.Eng
open Go Go.RowKit
set_option linter.unusedVariables false
set_option linter.unusedSimpArgs false
abbrev FrS (w : World) (G : Nat → Prop) (w' : World) : Prop := Fr w (fun k => G k ∨ w.heap.size ≤ k) w'
def Stab {α : Type} (J : List α → (Nat → Prop) → World → Prop) : Prop := ∀ pre G w1 w2, J pre G w1 → (∀ g, G g → w2.heap[g]? = w1.heap[g]?) → J pre G w2
def YieldOk {α : Type} (P : Program) (l : Nat) (encs : α → Array Value) (xs : List α) (RF : World → Prop) (J Jx : List α → (Nat → Prop) → World → Prop) : Prop :=
  ∀ pre x G w, pre ++ [x] <+: xs → J pre G w → RF w → ∀ r m, YieldAt (Fn r) m P l (encs x) w fun e w' =>
    ∃ G', (∀ g, G' g → G g ∨ w.heap.size ≤ g) ∧ (∀ g, G' g → g < w'.heap.size) ∧ FrS w G w' ∧ ((e = .returned (.bool true) ∧ J (pre ++ [x]) G' w') ∨ (e = .returned (.bool false) ∧ Jx (pre ++ [x]) G' w'))
theorem HE.foot_ok {n : Vn} {ok : Nat → Prop} {w : World} {x : Value} {e : HE} (hm : e.mut = true) (h : e.sat n ok w x) : ∀ g, e.foot x g → ok g := by
  intro g hg
  cases e with
  | box ty cs => obtain ⟨g', rfl, hk, _⟩ := h; cases hg; exact hk
  | lit e m cs => obtain ⟨g', rfl, hk, _⟩ := h; cases hg; exact hk
  | sl kd e sz l enc z => cases kd with
    | own => exact h.2.1 g hg
    | _ => cases hm
  | clo f u v => cases hm
  | pf F G => cases hm
  | jf F G => exact h.2.1 g hg
  | ob b o =>
    obtain ⟨g', rfl, hk, _⟩ := h
    cases b <;> (cases hg; exact hk)
theorem HE.sat_ok {n : Vn} {ok ok' : Nat → Prop} {w : World} {x : Value} {e : HE} (h : e.sat n ok w x) (hk : e.mut = true → ∀ g, e.foot x g → ok' g) : e.sat n ok' w x := by
  cases e with
  | box ty cs => obtain ⟨g', rfl, h1, h2⟩ := h; exact ⟨g', rfl, hk rfl _ rfl, h2⟩
  | lit e m cs => obtain ⟨g', rfl, h1, h2⟩ := h; exact ⟨g', rfl, hk rfl _ rfl, h2⟩
  | sl kd e sz l enc z => cases kd with
    | own => exact ⟨h.1, hk rfl, h.2.2⟩
    | ro => exact h
    | full => exact h
  | clo f u v => exact h
  | pf F G => exact h
  | jf F G => exact ⟨h.1, hk rfl, h.2.2⟩
  | ob b o =>
    obtain ⟨g', rfl, h1, h2⟩ := h
    exact ⟨g', rfl, hk rfl _ (by cases b <;> rfl), h2⟩
section
variable {P : Program} {tt : TT} {cx : Cx} {s s' : AS} {Q : Exit → AS → Prop} {ops : Array Oper} {l : List Oper} {n : Vn} {w w' : World}
theorem swap_list {L : List (Nat × HE)} {id : Nat} {G G' : Nat → Prop} {F F' : World → Prop} (h : fnd L id = some (.jf F G)) (hsat : ∀ x ∈ L, x.2.sat n cx.ok w (n x.1)) (hlt : ∀ x ∈ L, ∀ g, x.2.foot (n x.1) g → g < w.heap.size)
    (hsep : L.Pairwise fun x y => (x.2.mut = true ∨ y.2.mut = true) → ∀ g, x.2.foot (n x.1) g → ¬ y.2.foot (n y.1) g) (hz : w.heap.size ≤ w'.heap.size)
    (hw : ∀ k, k < w.heap.size → ¬ G k → w'.heap[k]? = w.heap[k]?) (hG : ∀ g, G' g → G g ∨ w.heap.size ≤ g) (hG' : ∀ g, G' g → g < w'.heap.size) (hnew : (HE.jf F' G').sat n cx.ok w' (n id)) :
    (∀ x ∈ rep L id (.jf F' G'), x.2.sat n cx.ok w' (n x.1)) ∧ (∀ x ∈ rep L id (.jf F' G'), ∀ g, x.2.foot (n x.1) g → g < w'.heap.size) ∧
    (rep L id (.jf F' G')).Pairwise fun x y => (x.2.mut = true ∨ y.2.mut = true) → ∀ g, x.2.foot (n x.1) g → ¬ y.2.foot (n y.1) g := by
  induction L with
  | nil => cases h
  | cons y r ih =>
    obtain ⟨hy, hr⟩ := List.pairwise_cons.1 hsep
    simp only [rep]
    rcases hb : Nat.beq y.1 id with _ | _
    · simp only [fnd, hb, cond_false] at h ⊢
      obtain ⟨i1, i2, i3⟩ := ih h (fun x hx => hsat x (List.mem_cons_of_mem _ hx)) (fun x hx => hlt x (List.mem_cons_of_mem _ hx)) hr
      have hyG : ∀ g, y.2.foot (n y.1) g → ¬ G g := fun g hg hGg => hy _ (fnd_mem h) (.inr rfl) g hg hGg
      refine ⟨fun x hx => ?_, fun x hx => ?_, List.pairwise_cons.2 ⟨fun z hz' hm g hg hgz => ?_, i3⟩⟩
      · rcases List.mem_cons.1 hx with rfl | hx
        · exact HE.sat_move (hsat _ List.mem_cons_self) fun k hk => hw k (hlt _ List.mem_cons_self k hk) (hyG k hk)
        · exact i1 x hx
      · rcases List.mem_cons.1 hx with rfl | hx
        · exact fun g hg => Nat.lt_of_lt_of_le (hlt _ List.mem_cons_self g hg) hz
        · exact i2 x hx
      · rcases rep_mem hz' with hz1 | rfl
        · exact hy z hz1 hm g hg hgz
        · rcases hG g hgz with h1 | h1
          · exact hyG g hg h1
          · have := hlt _ List.mem_cons_self g hg; omega
    · simp only [fnd, hb, cond_true] at h ⊢
      have hid := Nat.eq_of_beq_eq_true hb
      obtain ⟨yi, ye⟩ := y
      simp only at hid h hy
      cases hid
      cases h
      have hxG : ∀ x ∈ r, ∀ g, x.2.foot (n x.1) g → ¬ G g := fun x hx g hg hGg => hy x hx (.inl rfl) g hGg hg
      refine ⟨fun x hx => ?_, fun x hx => ?_, List.pairwise_cons.2 ⟨fun z hz' hm g hg hgz => ?_, hr⟩⟩
      · rcases List.mem_cons.1 hx with rfl | hx
        · exact hnew
        · exact HE.sat_move (hsat _ (List.mem_cons_of_mem _ hx)) fun k hk => hw k (hlt _ (List.mem_cons_of_mem _ hx) k hk) (hxG x hx k hk)
      · rcases List.mem_cons.1 hx with rfl | hx
        · exact hG'
        · exact fun g hg => Nat.lt_of_lt_of_le (hlt _ (List.mem_cons_of_mem _ hx) g hg) hz
      · rcases hG g hg with h1 | h1
        · exact hxG z hz' g hgz h1
        · have := hlt _ (List.mem_cons_of_mem _ hz') g hgz; omega
theorem more_rep {id : Nat} {e0 e : HE} (hf : fnd s.hp id = some e0) (hl : e0.len ≤ e.len) : More s { s with hp := rep s.hp id e } := ⟨Nat.le_refl _, fun j _ e' he => by
  by_cases hj : j = id
  · subst hj
    have : Eng.fnd (Eng.rep s.hp j e) j = some e := fnd_rep_eq hf
    have he' : Eng.fnd (Eng.rep s.hp j e) j = some e' := he
    rw [this] at he'
    cases he'
    exact ⟨e0, hf, hl⟩
  · exact ⟨e', by rw [← fnd_rep_ne (e := e) hj]; exact he, Nat.le_refl _⟩⟩
theorem HSat.swap (h : HSat cx n s w) {id : Nat} {G G' : Nat → Prop} {F F' : World → Prop} (hf : fnd s.hp id = some (.jf F G)) (hfr : FrS w G w') (hG : ∀ g, G' g → G g ∨ w.heap.size ≤ g) (hG' : ∀ g, G' g → g < w'.heap.size)
    (hF : F' w') (hst : ∀ w1 w2 : World, F' w1 → (∀ g, G' g → w2.heap[g]? = w1.heap[g]?) → F' w2) : HSat cx n { s with hp := rep s.hp id (.jf F' G') } w' := by
  have hj := h.ents _ (fnd_mem hf)
  have hok : ∀ g, G' g → cx.ok g := fun g hg => by
    rcases hG g hg with h1 | h1
    · exact hj.2.1 g h1
    · exact h.fr.news g (Nat.le_trans h.fr.size h1)
  obtain ⟨i1, i2, i3⟩ := swap_list (cx := cx) (w' := w') hf h.ents h.lt h.sep hfr.size (fun k hk hn => hfr.block k hk (fun h => h.elim hn (fun h => by omega))) hG hG' ⟨hF, hok, hst⟩
  have hmore := more_rep (e := .jf F' G') hf (Nat.le_refl _)
  refine ⟨⟨hfr.os.trans h.fr.os, hfr.tape.trans h.fr.tape, hfr.output.trans h.fr.output, Nat.le_trans h.fr.size hfr.size, fun k hk hn => (hfr.block k (Nat.lt_of_lt_of_le hk h.fr.size) ?_).trans (h.fr.block k hk hn), h.fr.news⟩, h.ini, h.inx, h.one, i1, fun x hx => ?_, i3, i2, fun x hx => ?_⟩
  · rintro (h1 | h1)
    · exact hn (hj.2.1 k h1)
    · have := h.fr.size; omega
  · rcases rep_mem hx with hx | rfl
    · exact HE.ok_more (h.oks x hx) hmore
    · trivial
  · rcases rep_mem hx with hx | rfl
    · exact h.ids x hx
    · exact h.ids (id, .jf F G) (fnd_mem hf)
theorem wpListIn_append {r : Option Nat} {m : Nat} {Q1 : Act → World → Prop} {Q' : Exit → Act → World → Prop} : ∀ (l1 l2 : List Oper), (∀ o ∈ l1, ∀ c, o.op ≠ .defer c) → ∀ a w, wpList P ops (fun e a w => e = .normal ∧ Q1 a w) l1 a w →
    (∀ a w, Q1 a w → wpListIn (Fn r) m P ops Q' l2 a w) → wpListIn (Fn r) m P ops Q' (l1 ++ l2) a w
  | [], l2, _, a, w, h, hK => hK a w h.2
  | o :: l1, l2, hd, a, w, h, hK => by
    have hd' : ∀ o ∈ l1, ∀ c, o.op ≠ .defer c := fun o ho => hd o (List.mem_cons_of_mem _ ho)
    unfold wpList at h
    simp only [List.cons_append, wpListIn]
    split
    · rename_i hw
      rw [if_pos hw] at h
      rcases h with h | h
      · exact oper_in (hd o List.mem_cons_self) (wp_mono2 (fun a w h => wpListIn_append l1 l2 hd' a w h hK) (fun c a w h => by cases h.1) (fun h => by obtain ⟨_, _, h, _⟩ := h; cases h) h)
      · obtain ⟨_, _, h, _⟩ := h.2; cases h
    · rename_i hw
      rw [if_neg hw] at h
      exact ⟨fun _ _ => trivial, wpListIn_append l1 l2 hd' _ _ h hK⟩
theorem noDefer_mem (h : noDefer ops = true) {o : Oper} (ho : o ∈ ops.toList) : ∀ c, o.op ≠ .defer c := by
  obtain ⟨i, hi⟩ := List.mem_iff_getElem?.1 ho
  exact noDefer_spec h i o (by simpa using hi)
def yA (s : AS) : List Oper → Option (Nat × List AV × Option Tmp)
  | o :: _ => match o.op, o.guard with
    | .call c, none => match c.callee with
      | .value x => match ev s [] x, evl s [] c.args.toList with
        | some (.s (.v (.func (.yield L) a b))), some vs => bif Nat.beq a.size 0 && Nat.beq b.size 0 then some (L, vs, o.dst) else none
        | _, _ => none
      | _ => none
    | _, _ => none
  | [] => none
def yP (tt : TT) (ops : Array Oper) (s : AS) (l : List Oper) (id : Nat) (d : Option Tmp) (e : HE) (b : Bool) : Option AS :=
  match ({ s with hp := rep s.hp id e } : AS).put d [] (.s (.bool b)) with
  | some s2 => sts tt ops l.tail s2
  | none => none
theorem WP_yield (hT : TTok P tt) {rid : Nat} (k : Nat) {α : Type} (pre : List α) (x : α) (L id idR : Nat) (vs : List AV) (d : Option Tmp) (G GR : Nat → Prop) (encs : α → Array Value) (xs : List α) (RF : World → Prop) (J Jx : List α → (Nat → Prop) → World → Prop)
    (h1 : (sts tt ops (ops.toList.take k) s).isSome = true) (hy : yA ((sts tt ops (ops.toList.take k) s).getD s) (ops.toList.drop k) = some (L, vs, d))
    (hf : fnd ((sts tt ops (ops.toList.take k) s).getD s).hp id = some (.jf (J pre G) G)) (hr : fnd ((sts tt ops (ops.toList.take k) s).getD s).hp idR = some (.pf RF GR))
    (hJ : Stab J) (hJx : Stab Jx) (hY : YieldOk P L encs xs RF J Jx) (hx : pre ++ [x] <+: xs) (henc : ∀ n, encs x = (vs.map (AV.c n)).toArray)
    (hp : ∀ F' G' b, (yP tt ops ((sts tt ops (ops.toList.take k) s).getD s) (ops.toList.drop k) id d (.jf F' G') b).isSome = true)
    (hK : ∀ G', Q .normal ((yP tt ops ((sts tt ops (ops.toList.take k) s).getD s) (ops.toList.drop k) id d (.jf (J (pre ++ [x]) G') G') true).getD s))
    (hK' : ∀ G', Q .normal ((yP tt ops ((sts tt ops (ops.toList.take k) s).getD s) (ops.toList.drop k) id d (.jf (Jx (pre ++ [x]) G') G') false).getD s))
    (hd : noDefer ops = true := by kernel_rfl) : WP P cx s (.region rid ops false) Q := fun r m ht n a w hs => by
  obtain ⟨s1, h1'⟩ := Option.isSome_iff_exists.1 h1
  rw [h1'] at hy hf hr hp hK hK'
  simp only [Option.getD_some] at hy hf hr hp hK hK'
  refine wpIn_region_list ?_
  rw [← List.take_append_drop k ops.toList]
  have hpre : wpList P ops (fun e a w => e = .normal ∧ ∃ n, Sat cx n s1 a w) (ops.toList.take k) a w := by
    have := sts_sound (rest := []) hT hs h1' (Q := fun e a w => e = .normal ∧ ∃ n, Sat cx n s1 a w) fun n' a' w' hs' => wpList_nil ⟨rfl, n', hs'⟩
    rwa [List.append_nil] at this
  refine wpListIn_append _ _ (fun o ho => noDefer_mem hd (List.mem_of_mem_take ho)) a w hpre fun a w ⟨n, hs⟩ => ?_
  cases hl : ops.toList.drop k with
  | nil => rw [hl] at hy; cases hy
  | cons o rest =>
    rw [hl] at hy hp hK hK'
    have hdr : ∀ o' ∈ o :: rest, ∀ c, o'.op ≠ .defer c := fun o' ho' => noDefer_mem hd (List.mem_of_mem_drop (i := k) (by rw [hl]; exact ho'))
    simp only [yA] at hy
    split at hy <;> try (cases hy; done)
    rename_i c ho hg
    split at hy <;> try (cases hy; done)
    rename_i xo hc
    split at hy <;> try (cases hy; done)
    rename_i L' fa fb vs' hx' hvs
    rcases hb : (Nat.beq fa.size 0 && Nat.beq fb.size 0) with _ | _
    · rw [hb] at hy; cases hy
    · rw [hb] at hy
      simp only [cond_true, Option.some.injEq, Prod.mk.injEq] at hy
      obtain ⟨rfl, rfl, rfl⟩ := hy
      simp only [Bool.and_eq_true] at hb
      have hfa : fa = #[] := Array.eq_empty_of_size_eq_zero (Nat.eq_of_beq_eq_true hb.1)
      have hfb : fb = #[] := Array.eq_empty_of_size_eq_zero (Nat.eq_of_beq_eq_true hb.2)
      subst hfa hfb
      have hH : Holds a [] := fun x hx => by cases hx
      obtain ⟨e1, _⟩ := ev_sound hs.env hH hx'
      obtain ⟨e2, _⟩ := evl_sound hs.env hH hvs
      have hw : Region.wanted o (yielded ops a.tmps) = true := wanted_none (ops := ops) hg
      have hj := hs.heap.ents _ (fnd_mem hf)
      have hR := hs.heap.ents _ (fnd_mem hr)
      obtain ⟨fn, tmps, assign, body, hyr, hround⟩ := hY pre x G w hx hj.1 hR.1 r (m - 1)
      have hrun : (execOp a.eval o).run P w = .ok (.round L' fn tmps assign body) w := by
        unfold execOp
        rw [ho]
        rw [henc n] at hyr
        have h1 : c.args.map a.eval = (vs'.map (AV.c n)).toArray := by apply Array.ext'; simpa using e2
        simp only [AV.c, AC.c] at e1
        simp only [resolve, hc, h1, e1, Deferred.ofValue, Sem.run_bind, Sem.run_pure, Result.andThen_ok, invoke]
        simp [hyr]
      unfold wpListIn
      rw [if_pos hw]
      refine ⟨fun _ _ => trivial, ?_⟩
      rw [Oper.semAt_eq _ _ _ (hdr o List.mem_cons_self), hrun]
      simp only [Oper.uponIn]
      refine ⟨fun h => by simp [Fn, Fence.wide] at h, hround.mono fun e w' ⟨G', hG, hG', hfr, hres⟩ => ?_⟩
      have fin : ∀ (b : Bool) (F' : World → Prop), F' w' → (∀ w1 w2 : World, F' w1 → (∀ g, G' g → w2.heap[g]? = w1.heap[g]?) → F' w2) → Q .normal ((yP tt ops s1 (o :: rest) id o.dst (.jf F' G') b).getD s) → wpListIn (Fn r) m P ops (Post cx Q) rest (a.put o.dst (.bool b)) w' := fun b F' hF' hst hQ => by
        have hsw := hs.heap.swap (w' := w') hf hfr hG hG' hF' hst
        have hst2 := env_hp hs (more_rep (e := .jf F' G') hf (Nat.le_refl _)) hsw
        obtain ⟨s3, h3⟩ := Option.isSome_iff_exists.1 (hp F' G' b)
        rw [h3] at hQ
        simp only [yP, List.tail_cons] at h3
        split at h3
        · rename_i s2 hs2
          have hsat2 := put_sat (x := .bool b) hst2 hs2 (fun _ => ⟨rfl, trivial⟩) (fun hn => absurd hH hn)
          have hpost : wpList P ops (fun e a w => e = .normal ∧ ∃ n, Sat cx n s3 a w) rest (a.put o.dst (.bool b)) w' := by
            have := sts_sound (rest := []) hT hsat2 h3 (Q := fun e a w => e = .normal ∧ ∃ n, Sat cx n s3 a w) fun n' a' w' hs' => wpList_nil ⟨rfl, n', hs'⟩
            rwa [List.append_nil] at this
          have := wpListIn_append (P := P) (ops := ops) (r := r) (m := m) (Q' := Post cx Q) rest [] (fun o' ho' => hdr o' (List.mem_cons_of_mem _ ho')) _ _ hpost fun a w ⟨n, hs⟩ => ⟨n, s3, hQ, hs⟩
          rwa [List.append_nil] at this
        · cases h3
      rcases hres with ⟨rfl, hJ'⟩ | ⟨rfl, hJ'⟩
      · exact fin true _ hJ' (fun w1 w2 h h' => hJ _ _ w1 w2 h h') (hK G')
      · exact fin false _ hJ' (fun w1 w2 h h' => hJx _ _ w1 w2 h h') (hK' G')
end
end Go.Proofs.YtamimgmoomcipaaDoor.Eng
namespace Go.Proofs.YtamimgmoomcipaaDoor.Eng
open Go Go.RowKit
set_option linter.unusedVariables false
set_option linter.unusedSimpArgs false
abbrev Sep (n : Vn) (x y : Nat × HE) : Prop := (x.2.mut = true ∨ y.2.mut = true) → ∀ g, x.2.foot (n x.1) g → ¬ y.2.foot (n y.1) g
structure MSat (ok : Nat → Prop) (n : Vn) (M : List (Nat × HE)) (w : World) (G : Nat → Prop) : Prop where
  ents : ∀ x ∈ M, x.2.sat n ok w (n x.1)
  sep : M.Pairwise (Sep n)
  foot : ∀ g, G g ↔ ∃ x ∈ M, x.2.foot (n x.1) g
  here : ∀ g, G g → (w.heap[g]?).isSome = true
theorem MSat.move {ok : Nat → Prop} {n : Vn} {M : List (Nat × HE)} {w w' : World} {G : Nat → Prop} (h : MSat ok n M w G) (hw : ∀ g, G g → w'.heap[g]? = w.heap[g]?) : MSat ok n M w' G :=
  ⟨fun x hx => HE.sat_move (h.ents x hx) fun g hg => hw g ((h.foot g).2 ⟨x, hx, hg⟩), h.sep, h.foot, fun g hg => by rw [hw g hg]; exact h.here g hg⟩
theorem lt_of_some {w : World} {g : Nat} (h : (w.heap[g]?).isSome = true) : g < w.heap.size := by
  obtain ⟨o, ho⟩ := Option.isSome_iff_exists.1 h
  exact (Array.getElem?_eq_some_iff.1 ho).1
theorem some_of_lt {w : World} {g : Nat} (h : g < w.heap.size) : (w.heap[g]?).isSome = true := by
  rw [Array.getElem?_eq_getElem h]; rfl
theorem assemble {cx : Cx} {n nL : Vn} {m nt : Nat} {df : List Nat} {MU ro : List (Nat × HE)} {w : World} {G : Nat → Prop} {okA okR : Nat → Prop} (hfr : Fr cx.w0 cx.ok w) (hini : ∀ id, id < cx.m0 → n id = cx.n0 id) (hm0 : cx.m0 ≤ m) (hag : ∀ id, id < m → n id = nL id)
    (one : ∀ id, (n id).oneCell' = true) (hM : MSat okA n MU w G) (hok : ∀ g, G g → cx.ok g) (hRF : ∀ x ∈ ro, x.2.sat nL okR w (nL x.1)) (hGR : ∀ x ∈ ro, ∀ g, x.2.foot (nL x.1) g → (w.heap[g]?).isSome = true ∧ ¬ G g) (hro : ∀ x ∈ ro, x.2.mut = false)
    (hoks : ∀ x ∈ MU ++ ro, x.2.ok ⟨nt, [], MU ++ ro, m, df⟩) (hids : ∀ x ∈ MU ++ ro, x.1 < m) : HSat cx n ⟨nt, [], MU ++ ro, m, df⟩ w := by
  have hidr : ∀ x ∈ ro, n x.1 = nL x.1 := fun x hx => hag _ (hids x (List.mem_append_right _ hx))
  refine ⟨hfr, hini, hm0, one, fun x hx => ?_, hoks, ?_, fun x hx g hg => ?_, hids⟩
  · rcases List.mem_append.1 hx with hx' | hx'
    · exact HE.sat_ok (hM.ents x hx') fun _ g hg => hok g ((hM.foot g).2 ⟨x, hx', hg⟩)
    · rw [hidr x hx']
      exact HE.sat_ok (HE.sat_congr (hoks x hx) (fun id hid => hag id hid) (hRF x hx')) fun hm => by rw [hro x hx'] at hm; cases hm
  · refine List.pairwise_append.2 ⟨hM.sep, ?_, fun x hx y hy hm g hg hgy => ?_⟩
    · exact List.pairwise_of_forall_mem_list fun x hx y hy hm => by rw [hro x hx, hro y hy] at hm; rcases hm with h | h <;> cases h
    · rw [hidr y hy] at hgy
      exact (hGR y hy g hgy).2 ((hM.foot g).2 ⟨x, hx, hg⟩)
  · rcases List.mem_append.1 hx with hx' | hx'
    · exact lt_of_some (hM.here g ((hM.foot g).2 ⟨x, hx', hg⟩))
    · rw [hidr x hx'] at hg
      exact lt_of_some (hGR x hx' g hg).1
def FP (n : Vn) (M : List (Nat × HE)) (g : Nat) : Prop := ∃ x ∈ M, x.2.foot (n x.1) g
theorem HSat.msat {cx : Cx} {n : Vn} {nt m : Nat} {E : List (Nat × List (Nat × Bool) × AV)} {df : List Nat} {MU ro : List (Nat × HE)} {w : World} (h : HSat cx n ⟨nt, E, MU ++ ro, m, df⟩ w) : MSat cx.ok n MU w (FP n MU) :=
  ⟨fun x hx => h.ents x (List.mem_append_left _ hx), (List.pairwise_append.1 h.sep).1, fun g => Iff.rfl, fun g ⟨x, hx, hg⟩ => some_of_lt (h.lt x (List.mem_append_left _ hx) g hg)⟩
theorem HSat.pick {cx : Cx} {n : Vn} {s : AS} {w : World} (h : HSat cx n s w) {l : List (Nat × HE)} (hs : SubP s.hp l) (hu : uniq l = true) (nt : Nat) (df : List Nat) : HSat cx n ⟨nt, [], l, s.nx, df⟩ w := by
  have hin : ∀ x ∈ l, x ∈ s.hp := fun x hx => fnd_mem (hs.all x hx)
  refine ⟨h.fr, h.ini, h.inx, h.one, fun x hx => h.ents x (hin x hx), fun x hx => HE.ok_fz (s0 := ⟨nt, [], l, s.nx, df⟩) (h.oks x (hin x hx)) ⟨Nat.le_refl _, hs, hu⟩ rfl, ?_, fun x hx => h.lt x (hin x hx), fun x hx => h.ids x (hin x hx)⟩
  refine (uniq_spec hu).imp_of_mem fun {x y} hx hy hne => ?_
  have hsym : ∀ (x y : Nat × HE), Sep n x y → Sep n y x := fun x y h hm g h1 h2 => h hm.symm g h2 h1
  exact pw_mem hsym h.sep (hin x hx) (hin y hy) (fun e => hne (congrArg (·.1) e))
def putAll : AS → List (Nat × AV) → Option AS
  | s, [] => some s
  | s, x :: r => match s.put (some x.1) [] x.2 with
    | some s' => putAll s' r
    | none => none
theorem putAll_sat {cx : Cx} {n : Vn} {w : World} {df : List Deferred} : ∀ (l : List (Nat × AV)) (s s' : AS) (tmps : Array Value), Sat cx n s ⟨tmps, df⟩ w → putAll s l = some s' → (∀ x ∈ l, okB s x.2 = true) →
    Sat cx n s' ⟨(l.map fun x => (x.1, x.2.c n)).foldl (fun t x => t.setIfInBounds x.1 x.2) tmps, df⟩ w
  | [], s, s', tmps, hs, h, _ => by simp only [putAll] at h; cases h; exact hs
  | x :: r, s, s', tmps, hs, h, hok => by
    simp only [putAll] at h
    split at h
    · rename_i s1 h1
      have hH : Holds ⟨tmps, df⟩ [] := fun x hx => by cases hx
      have h2 := put_sat (x := x.2.c n) hs h1 (fun _ => ⟨rfl, okB_sound (hok x List.mem_cons_self)⟩) (fun hn => absurd hH hn)
      have hsame := put_same h1
      have hokk : ∀ v : AV, okB s v = okB s1 v := fun v => by
        have hc : ∀ c, okB.c1 s c = okB.c1 s1 c := fun c => by cases c <;> simp only [okB.c1, hsame.2.1]
        have hcl : ∀ cs, okB.cl s cs = okB.cl s1 cs := fun cs => by induction cs with | nil => rfl | cons c r ih => simp only [okB.cl, hc, ih]
        cases v with
        | s c => exact hc c
        | g cs => exact hcl cs
        | t vs => simp only [okB]; induction vs with | nil => rfl | cons c r ih => simp only [okB.tl, hcl, ih]
      exact putAll_sat r s1 s' _ h2 h (fun y hy => by rw [← hokk]; exact hok y (List.mem_cons_of_mem _ hy))
    · cases h
def envSel (s : AS) : List Nat → Option (List (Nat × List (Nat × Bool) × AV))
  | [] => some []
  | t :: r => match look s.env t, envSel s r with
    | some ([], v), some l => bif okB s v then some ((t, [], v) :: l) else none
    | _, _ => none
theorem envSel_spec {s : AS} {ts : List Nat} {l : List (Nat × List (Nat × Bool) × AV)} (h : envSel s ts = some l) : ∀ x ∈ l, x ∈ s.env ∧ x.2.1 = [] ∧ okB s x.2.2 = true := by
  induction ts generalizing l with
  | nil => simp only [envSel] at h; cases h; intro x hx; cases hx
  | cons t r ih =>
    simp only [envSel] at h
    split at h
    · rename_i v l' hv hl
      rcases hb : okB s v with _ | _
      · rw [hb] at h; cases h
      · rw [hb] at h; cases h
        intro x hx
        rcases List.mem_cons.1 hx with rfl | hx
        · exact ⟨look_mem hv, rfl, hb⟩
        · exact ih hl x hx
    · cases h
theorem okB_nx {s s1 : AS} (h : s.nx ≤ s1.nx) {v : AV} (hv : okB s v = true) : okB s1 v = true := by
  have hc : ∀ c, okB.c1 s c = true → okB.c1 s1 c = true := fun c hc => by
    cases c <;> simp only [okB.c1] at * <;> first | exact Nat.ble_eq_true_of_le (Nat.le_trans (Nat.le_of_ble_eq_true hc) h) | exact hc
  have hcl : ∀ cs, okB.cl s cs = true → okB.cl s1 cs = true := fun cs => by
    induction cs with
    | nil => intro _; rfl
    | cons c r ih => intro h; simp only [okB.cl, Bool.and_eq_true] at *; exact ⟨hc c h.1, ih h.2⟩
  cases v with
  | s c => exact hc c hv
  | g cs => exact hcl cs hv
  | t vs =>
    simp only [okB] at *
    induction vs with
    | nil => rfl
    | cons c r ih => simp only [okB.tl, Bool.and_eq_true] at *; exact ⟨hcl _ hv.1, ih hv.2⟩
def heOk (s : AS) : HE → Bool
  | .box _ cs => okB.cl s cs
  | .lit _ _ cs => okB.cl s cs
  | .clo _ u v => go u && go v
  | _ => true
where go : List AV → Bool
  | [] => true
  | v :: r => okB s v && go r
theorem heOk_go {s : AS} {u : List AV} (h : heOk.go s u = true) : ∀ x ∈ u, okB s x = true := by
  induction u with
  | nil => intro x hx; cases hx
  | cons v r ih =>
    simp only [heOk.go, Bool.and_eq_true] at h
    intro x hx
    rcases List.mem_cons.1 hx with rfl | hx
    · exact h.1
    · exact ih h.2 x hx
theorem heOk_sound {s s1 : AS} (hn : s.nx ≤ s1.nx) {e : HE} (h : heOk s e = true) : e.ok s1 := by
  have hcl : ∀ cs, okB.cl s cs = true → cellsOk s1 cs := fun cs h => by
    have : okB s (.g cs) = true := h
    exact okB_sound (v := .g cs) (okB_nx hn this)
  cases e with
  | box ty cs => exact hcl cs h
  | lit e m cs => exact hcl cs h
  | clo f u v =>
    simp only [heOk, Bool.and_eq_true] at h
    exact ⟨fun x hx => okB_sound (okB_nx hn (heOk_go h.1 x hx)), fun x hx => okB_sound (okB_nx hn (heOk_go h.2 x hx))⟩
  | _ => trivial
def mOk (s : AS) (nx : Nat) : List (Nat × HE) → Bool
  | [] => true
  | x :: r => x.2.mut && heOk s x.2 && Nat.ble (x.1 + 1) nx && mOk s nx r
def rOk (s : AS) (nx : Nat) : List (Nat × HE) → Bool
  | [] => true
  | x :: r => !x.2.mut && heOk s x.2 && Nat.ble (x.1 + 1) nx && rOk s nx r
theorem mOk_spec {s : AS} {nx : Nat} {l : List (Nat × HE)} (h : mOk s nx l = true) : ∀ x ∈ l, x.2.mut = true ∧ heOk s x.2 = true ∧ x.1 < nx := by
  induction l with
  | nil => intro x hx; cases hx
  | cons y r ih =>
    simp only [mOk, Bool.and_eq_true] at h
    intro x hx
    rcases List.mem_cons.1 hx with rfl | hx
    · exact ⟨h.1.1.1, h.1.1.2, Nat.le_of_ble_eq_true h.1.2⟩
    · exact ih h.2 x hx
theorem rOk_spec {s : AS} {nx : Nat} {l : List (Nat × HE)} (h : rOk s nx l = true) : ∀ x ∈ l, x.2.mut = false ∧ heOk s x.2 = true ∧ x.1 < nx := by
  induction l with
  | nil => intro x hx; cases hx
  | cons y r ih =>
    simp only [rOk, Bool.and_eq_true, Bool.not_eq_true'] at h
    intro x hx
    rcases List.mem_cons.1 hx with rfl | hx
    · exact ⟨h.1.1.1, h.1.1.2, Nat.le_of_ble_eq_true h.1.2⟩
    · exact ih h.2 x hx
def IterOk (P : Program) {α : Type} (gf : Nat) (caps : List AV) (it ro : List (Nat × HE)) (nx : Nat) (encs : α → Array Value) (xs : List α) : Prop :=
  ∀ (cx : Cx) (n : Vn) (w : World) (L : Nat) (RF : World → Prop) (GR : Nat → Prop) (J Jx : List α → (Nat → Prop) → World → Prop) (G0 : Nat → Prop), Stab J → Stab Jx → YieldOk P L encs xs RF J Jx →
    HSat cx n ⟨0, [], (nx, .jf (J [] G0) G0) :: (nx + 1, .pf RF GR) :: (it ++ ro), nx + 2, []⟩ w →
    Calls P gf (#[.func (.yield L) #[] #[]] ++ (caps.map (AV.c n)).toArray) w fun e w' => (∃ v, e = .returned v) ∧ ∃ n' G' pre, (∀ id, id < nx + 2 → n' id = n id) ∧
      ((pre = xs ∧ HSat cx n' ⟨0, [], [(nx, .jf (J pre G') G'), (nx + 1, .pf RF GR)], nx + 2, []⟩ w') ∨ (pre <+: xs ∧ HSat cx n' ⟨0, [], [(nx, .jf (Jx pre G') G'), (nx + 1, .pf RF GR)], nx + 2, []⟩ w'))
def RQ (cx : Cx) (nt nx : Nat) (jL jD : HE) (Mn : List (Nat × HE)) (Mx : Code → Option (List (Nat × HE))) (ro : List (Nat × HE)) : Exit → AS → Prop
  | .normal, s => Le cx s ⟨nt, [], (nx, jL) :: (nx + 1, jD) :: (Mn ++ ro), nx + 2, []⟩
  | .ret, s => ∃ Mr, Mx .ret = some Mr ∧ Le cx s ⟨nt, [], (nx, jL) :: (nx + 1, jD) :: (Mr ++ ro), nx + 2, []⟩
  | .exit i, s => ∃ Mr, Mx (.exit i) = some Mr ∧ Le cx s ⟨nt, [], (nx, jL) :: (nx + 1, jD) :: (Mr ++ ro), nx + 2, []⟩
  | .goto i, s => ∃ Mr, Mx (.goto i) = some Mr ∧ Le cx s ⟨nt, [], (nx, jL) :: (nx + 1, jD) :: (Mr ++ ro), nx + 2, []⟩
  | _, _ => False
def JG (ok : Nat → Prop) (nL : Vn) (nx L D B : Nat) (G0 : Nat → Prop) (F : World → Prop) (Ms : List (Nat × HE)) (G : Nat → Prop) (w : World) : Prop :=
  ∃ n : Vn, (∀ id, id < nx + 2 → n id = nL id) ∧ (∀ id, (n id).oneCell' = true) ∧ (∀ g, G g → G0 g ∨ B ≤ g) ∧
    MSat ok n ((nx, .jf F (· = L)) :: (nx + 1, .jf (fun w => w.heap[D]? = some (.deferred (some []))) (· = D)) :: Ms) w G
theorem JG.stab {ok : Nat → Prop} {nL : Vn} {nx L D B : Nat} {G0 : Nat → Prop} {F : World → Prop} {Ms : List (Nat × HE)} {G : Nat → Prop} {w1 w2 : World} (h : JG ok nL nx L D B G0 F Ms G w1) (hw : ∀ g, G g → w2.heap[g]? = w1.heap[g]?) : JG ok nL nx L D B G0 F Ms G w2 := by
  obtain ⟨n, h1, h2, h3, h4⟩ := h
  exact ⟨n, h1, h2, h3, h4.move hw⟩
end Go.Proofs.YtamimgmoomcipaaDoor.Eng
namespace Go.Proofs.YtamimgmoomcipaaDoor.Eng
open Go Go.RowKit
set_option linter.unusedVariables false
set_option linter.unusedSimpArgs false
section
variable {P : Program} {tt : TT} {cx : Cx} {s s' : AS} {Q : Exit → AS → Prop}
abbrev eL (L : Nat) (F : World → Prop) : HE := .jf F (· = L)
abbrev eD (D : Nat) : HE := .jf (fun w => w.heap[D]? = some (.deferred (some []))) (· = D)
theorem JG.of {ok : Nat → Prop} {nL n : Vn} {nx L D B nt m : Nat} {G0 : Nat → Prop} {F F' : World → Prop} {Ms ro : List (Nat × HE)} {w : World} {o : Obj} {cxR : Cx} {df : List Nat}
    (h : HSat cxR n ⟨nt, [], (nx, eL L F) :: (nx + 1, eD D) :: (Ms ++ ro), m, df⟩ w) (hMm : ∀ x ∈ Ms, x.2.mut = true) (hn : ∀ id, id < nx + 2 → n id = nL id)
    (hF : F' (w.putObj L o)) (hst : ∀ w1 w2 : World, F' w1 → (∀ g, g = L → w2.heap[g]? = w1.heap[g]?) → F' w2) (hG : ∀ g, cxR.ok g → g < w.heap.size → G0 g ∨ B ≤ g) (hok : ∀ g, (G0 g ∨ B ≤ g) → ok g) :
    JG ok nL nx L D B G0 F' Ms (FP n ((nx, eL L F') :: (nx + 1, eD D) :: Ms)) (w.putObj L o) ∧
    (∀ g, FP n ((nx, eL L F') :: (nx + 1, eD D) :: Ms) g → cxR.ok g ∧ g < w.heap.size) := by
  have h' : HSat cxR n ⟨nt, [], ((nx, eL L F) :: (nx + 1, eD D) :: Ms) ++ ro, m, df⟩ w := h
  have hm := h'.msat
  have hmut : ∀ x ∈ ((nx, eL L F) :: (nx + 1, eD D) :: Ms), x.2.mut = true := fun x hx => by
    rcases List.mem_cons.1 hx with rfl | hx
    · rfl
    · rcases List.mem_cons.1 hx with rfl | hx
      · rfl
      · exact hMm x hx
  have hfp : ∀ g, FP n ((nx, eL L F') :: (nx + 1, eD D) :: Ms) g → FP n ((nx, eL L F) :: (nx + 1, eD D) :: Ms) g := fun g ⟨x, hx, hg⟩ => by
    rcases List.mem_cons.1 hx with rfl | hx
    · exact ⟨(nx, eL L F), List.mem_cons_self, hg⟩
    · exact ⟨x, List.mem_cons_of_mem _ hx, hg⟩
  have hcx : ∀ g, FP n ((nx, eL L F') :: (nx + 1, eD D) :: Ms) g → cxR.ok g ∧ g < w.heap.size := fun g hg => by
    have hg1 := hfp g hg
    obtain ⟨x, hx, hgx⟩ := hg1
    exact ⟨HE.foot_ok (hmut x hx) (hm.ents x hx) g hgx, lt_of_some (hm.here g ⟨x, hx, hgx⟩)⟩
  obtain ⟨s1, s2⟩ := List.pairwise_cons.1 hm.sep
  have hLok : ok L := hok L (hG L (hcx L ⟨_, List.mem_cons_self, rfl⟩).1 (hcx L ⟨_, List.mem_cons_self, rfl⟩).2)
  refine ⟨⟨n, hn, h.one, fun g hg => hG g (hcx g hg).1 (hcx g hg).2, ⟨fun x hx => ?_, List.pairwise_cons.2 ⟨fun y hy hm' g hg => s1 y hy (.inl rfl) g hg, s2⟩, fun g => Iff.rfl, fun g hg => some_of_lt (by rw [World.putObj_size]; exact (hcx g hg).2)⟩⟩, hcx⟩
  rcases List.mem_cons.1 hx with rfl | hx1
  · exact ⟨hF, fun g hg => by cases hg; exact hLok, hst⟩
  · have hx0 : x ∈ ((nx, eL L F) :: (nx + 1, eD D) :: Ms) := List.mem_cons_of_mem _ hx1
    refine HE.sat_ok (HE.sat_move (hm.ents x hx0) fun g hg => World.putObj_heap_other fun e => ?_) fun _ g hg => hok g ?_
    · subst e; exact s1 x hx1 (.inl rfl) g rfl hg
    · have := hcx g ⟨x, List.mem_cons_of_mem _ hx1, hg⟩
      exact hG g this.1 this.2
def RFo (ok : Nat → Prop) (nL : Vn) (ro : List (Nat × HE)) (w : World) : Prop := (∀ x ∈ ro, x.2.sat nL ok w (nL x.1)) ∧ ∀ g, FP nL ro g → (w.heap[g]?).isSome = true
theorem RFo.stab {ok : Nat → Prop} {nL : Vn} {ro : List (Nat × HE)} {w1 w2 : World} (h : RFo ok nL ro w1) (hw : ∀ g, FP nL ro g → w2.heap[g]? = w1.heap[g]?) : RFo ok nL ro w2 :=
  ⟨fun x hx => HE.sat_move (h.1 x hx) fun g hg => hw g ⟨x, hx, hg⟩, fun g hg => by rw [hw g hg]; exact h.2 g hg⟩
theorem mem2 {y z : Nat × HE} {Ms ro : List (Nat × HE)} {R : Nat × HE → Prop} (hy : R y) (hz : R z) (hM : ∀ x ∈ Ms, R x) (hr : ∀ x ∈ ro, R x) : ∀ x ∈ y :: z :: (Ms ++ ro), R x := fun x hx => by
  rcases List.mem_cons.1 hx with rfl | hx
  · exact hy
  · rcases List.mem_cons.1 hx with rfl | hx
    · exact hz
    · rcases List.mem_append.1 hx with hx | hx
      · exact hM x hx
      · exact hr x hx
theorem putAll_tmps {n : Vn} {x : List AV} : ∀ (ps : List Tmp) (tmps : Array Value), ((ps.zip x).map fun y => (y.1, y.2.c n)).foldl (fun t y => t.setIfInBounds y.1 y.2) tmps = (ps.zip (x.map (AV.c n))).foldl (fun t y => t.setIfInBounds y.1 y.2) tmps := by
  intro ps tmps
  congr 1
  rw [List.zip_map_right]
  rfl
theorem JG.heap {ok : Nat → Prop} {nL : Vn} {nx L D B nt : Nat} {G0 : Nat → Prop} {F : World → Prop} {Ms ro : List (Nat × HE)} {G : Nat → Prop} {w : World} (h : JG ok nL nx L D B G0 F Ms G w) (hR : RFo ok nL ro w) (cxR : Cx) (hfr : Fr cxR.w0 cxR.ok w) (hn : ∀ id, id < cxR.m0 → nL id = cxR.n0 id) (hm0 : cxR.m0 ≤ nx + 2)
    (hGok : ∀ g, G g → cxR.ok g) (hdis : ∀ g, FP nL ro g → ¬ (G0 g ∨ B ≤ g)) (hMs : mOk s nx Ms = true) (hro : rOk s nx ro = true) (hnx : s.nx = nx) :
    ∃ n, (∀ id, id < nx + 2 → n id = nL id) ∧ HSat cxR n ⟨nt, [], (nx, eL L F) :: (nx + 1, eD D) :: (Ms ++ ro), nx + 2, []⟩ w := by
  obtain ⟨n, hag, one, hGB, hM⟩ := h
  refine ⟨n, hag, ?_⟩
  have hms := mOk_spec hMs
  have hrs := rOk_spec hro
  refine assemble (MU := (nx, eL L F) :: (nx + 1, eD D) :: Ms) (nL := nL) (okR := ok) hfr (fun id hid => (hag id (Nat.lt_of_lt_of_le hid hm0)).trans (hn id hid)) hm0 hag one hM hGok hR.1
    (fun x hx g hg => ⟨hR.2 g ⟨x, hx, hg⟩, fun hG => hdis g ⟨x, hx, hg⟩ (hGB g hG)⟩) (fun x hx => (hrs x hx).1) ?_ ?_
  · exact mem2 (R := fun x => x.2.ok _) trivial trivial (fun x hx => heOk_sound (by simp only [hnx]; omega) (hms x hx).2.1) (fun x hx => heOk_sound (by simp only [hnx]; omega) (hrs x hx).2.1)
  · exact mem2 (R := fun x => x.1 < nx + 2) (by simp) (by simp) (fun x hx => Nat.lt_add_right 2 (hms x hx).2.2) (fun x hx => Nat.lt_add_right 2 (hrs x hx).2.2)
theorem JG.after {nL : Vn} {nx L D B nt : Nat} {G0 : Nat → Prop} {F : World → Prop} {Ms ro : List (Nat × HE)} {G : Nat → Prop} {w : World} {df : List Nat} (o : Obj) (h : JG cx.ok nL nx L D B G0 F Ms G w) (hR : RFo cx.ok nL ro w) (hfr : Fr cx.w0 cx.ok w) (hn : ∀ id, id < cx.m0 → nL id = cx.n0 id) (hm0 : cx.m0 ≤ nx + 2)
    (hGok : ∀ g, (G0 g ∨ B ≤ g) → cx.ok g) (hdis : ∀ g, FP nL ro g → ¬ (G0 g ∨ B ≤ g)) (hMs : mOk s nx Ms = true) (hro : rOk s nx ro = true) (hnx : s.nx = nx) :
    ∃ n, (∀ id, id < nx + 2 → n id = nL id) ∧ HSat cx n ⟨nt, [], (nx + 1, eD D) :: (Ms ++ ro), nx + 2, df⟩ (w.putObj L o) := by
  obtain ⟨n, hag, one, hGB, hM⟩ := h
  refine ⟨n, hag, ?_⟩
  have hms := mOk_spec hMs
  have hrs := rOk_spec hro
  obtain ⟨s1, s2⟩ := List.pairwise_cons.1 hM.sep
  have hGL : G L := (hM.foot L).2 ⟨_, List.mem_cons_self, rfl⟩
  have hM' : MSat cx.ok n ((nx + 1, eD D) :: Ms) (w.putObj L o) (FP n ((nx + 1, eD D) :: Ms)) := by
    refine ⟨fun x hx => HE.sat_move (hM.ents x (List.mem_cons_of_mem _ hx)) fun g hg => World.putObj_heap_other fun e => ?_, s2, fun g => Iff.rfl, fun g ⟨x, hx, hg⟩ => some_of_lt ?_⟩
    · subst e; exact s1 x hx (.inl rfl) g rfl hg
    · rw [World.putObj_size]; exact lt_of_some (hM.here g ((hM.foot g).2 ⟨x, List.mem_cons_of_mem _ hx, hg⟩))
  have hR' : RFo cx.ok nL ro (w.putObj L o) := hR.stab fun g hg => World.putObj_heap_other fun e => by
    subst e; exact hdis g hg (hGB g hGL)
  have hfr' : Fr cx.w0 cx.ok (w.putObj L o) := hfr.grown (grownBy_putObj' w L o) (fun g hg => by cases hg; exact hGok _ (hGB _ hGL))
  refine assemble (MU := (nx + 1, eD D) :: Ms) (nL := nL) (okR := cx.ok) hfr' (fun id hid => (hag id (Nat.lt_of_lt_of_le hid hm0)).trans (hn id hid)) hm0 hag one hM' (fun g ⟨x, hx, hg⟩ => hGok g (hGB g ((hM.foot g).2 ⟨x, List.mem_cons_of_mem _ hx, hg⟩))) hR'.1
    (fun x hx g hg => ⟨hR'.2 g ⟨x, hx, hg⟩, fun ⟨y, hy, hgy⟩ => hdis g ⟨x, hx, hg⟩ (hGB g ((hM.foot g).2 ⟨y, List.mem_cons_of_mem _ hy, hgy⟩))⟩) (fun x hx => (hrs x hx).1) ?_ ?_
  · intro x hx
    refine mem2 (y := (nx + 1, eD D)) (z := (nx + 1, eD D)) (R := fun x => x.2.ok _) trivial trivial (fun x hx => heOk_sound (by simp only [hnx]; omega) (hms x hx).2.1) (fun x hx => heOk_sound (by simp only [hnx]; omega) (hrs x hx).2.1) x (List.mem_cons_of_mem _ hx)
  · intro x hx
    exact mem2 (y := (nx + 1, eD D)) (z := (nx + 1, eD D)) (R := fun x => x.1 < nx + 2) (by simp) (by simp) (fun x hx => Nat.lt_add_right 2 (hms x hx).2.2) (fun x hx => Nat.lt_add_right 2 (hrs x hx).2.2) x (List.mem_cons_of_mem _ hx)
end
end Go.Proofs.YtamimgmoomcipaaDoor.Eng
namespace Go.Proofs.YtamimgmoomcipaaDoor.Eng
open Go Go.RowKit
set_option linter.unusedVariables false
set_option linter.unusedSimpArgs false
section
variable {P : Program} {tt : TT} {cx : Cx} {s s' : AS} {Q : Exit → AS → Prop}
set_option maxHeartbeats 1000000 in
theorem WP_range (hT : TTok P tt) (htop : cx.top = true) {f : Operand} {ps : Array Tmp} {assign body : Code} {α : Type} (xs : List α) (encs : α → Array Value) (ea : α → List AV) (ts : List Nat) (E : List (Nat × List (Nat × Bool) × AV))
    (cid gf : Nat) (caps : List AV) (M : List α → List (Nat × HE)) (MX : Code → List α → Option (List (Nat × HE))) (it ro : List (Nat × HE))
    (hx : ev s [] f = some (.s (.ref cid))) (hc : fnd s.hp cid = some (.clo gf [] caps)) (hgo : goes P gf) (hE : envSel s ts = some E)
    (hsub : SubP s.hp (M [] ++ (it ++ ro))) (hun : uniq (M [] ++ (it ++ ro)) = true)
    (hMok : ∀ pre, mOk s s.nx (M pre) = true) (hXok : ∀ c pre Mr, MX c pre = some Mr → mOk s s.nx Mr = true) (hrok : rOk s s.nx ro = true)
    (henc : ∀ x n, encs x = ((ea x).map (AV.c n)).toArray) (hps : ∀ x, (ea x).length = ps.size) (hea : ∀ x, ∀ v ∈ ea x, okB s v = true) (hcaps : ∀ v ∈ caps, okB s v = true)
    (hit : IterOk P gf caps it ro s.nx encs xs)
    (hround : ∀ pre x, pre ++ [x] <+: xs → ∀ (w0 : World) (ok : Nat → Prop) (n0 : Vn) (L D : Nat) (FL FB : World → Prop), (∀ id, id < cx.m0 → n0 id = cx.n0 id) →
      ∃ sR, putAll ⟨s.nt, E, (s.nx, eL L FL) :: (s.nx + 1, eD D) :: (M pre ++ ro), s.nx + 2, []⟩ (ps.toList.zip (ea x)) = some sR ∧
        WP P ⟨w0, ok, n0, s.nx + 2, false⟩ sR assign (Nx (fun s' => fnd s'.hp s.nx = some (eL L FL) ∧
          WP P ⟨w0, ok, n0, s.nx + 2, false⟩ { s' with hp := rep s'.hp s.nx (eL L FB) } body (RQ ⟨w0, ok, n0, s.nx + 2, false⟩ s.nt s.nx (eL L FB) (eD D) (M (pre ++ [x])) (fun c => MX c (pre ++ [x])) ro)) (fun _ _ => False)))
    (hdone : ∀ D, Q .normal ⟨s.nt, E, (s.nx + 1, eD D) :: (M xs ++ ro), s.nx + 2, D :: s.df⟩)
    (hstop : ∀ D c pre Mr, MX c pre = some Mr → pre <+: xs → WP P cx ⟨s.nt, E, (s.nx + 1, eD D) :: (Mr ++ ro), s.nx + 2, D :: s.df⟩ c Q) : WP P cx s (.rangeFunc f ps assign body) Q := fun r m' ht n a w hs => by
  obtain rfl : r = none := ht htop
  have hH : Holds a [] := fun x hx => by cases hx
  obtain ⟨ef, _⟩ := ev_sound hs.env hH hx
  have hclo := hs.heap.ents _ (fnd_mem hc)
  simp only [AV.c, AC.c] at ef
  simp only [HE.sat, List.map_nil] at hclo
  rw [hclo] at ef
  refine wpIn_rangeFunc fun fn hfn => ?_
  obtain ⟨rec, hrec⟩ : ∃ rec : LoopState → Option Code → Loop, rec = fun st pe => { state := st, pending := pe, fn, tmps := a.tmps, params := ps, assign, body, defers := w.heap.size } := ⟨_, rfl⟩
  obtain ⟨W1, hW1⟩ : ∃ W1, (w.alloc (.deferred (some []))).alloc (.loop (rec .ready none)) = W1 := ⟨_, rfl⟩
  have hb : Below w.heap.size w W1 := by rw [← hW1]; exact ((Below.refl _ w).alloc (Nat.le_refl _) _).alloc (by simp) _
  have hz : W1.heap.size = w.heap.size + 2 := by rw [← hW1]; simp
  have hL1 : W1.heap[w.heap.size + 1]? = some (.loop (rec .ready none)) := by
    rw [← hW1]; have := World.alloc_heap_new (w.alloc (.deferred (some []))) (.loop (rec .ready none)); rwa [World.size_alloc] at this
  have hD1 : W1.heap[w.heap.size]? = some (.deferred (some [])) := by
    rw [← hW1]; exact (Below.heap_alloc _ _ _ (by simp)).trans (World.alloc_heap_new w _)
  obtain ⟨nL, hnLd⟩ : ∃ nL : Vn, nL = upd (upd n s.nx .nilFunc) (s.nx + 1) .nilFunc := ⟨_, rfl⟩
  have hnL : ∀ id, id < s.nx → nL id = n id := fun id hid => by rw [hnLd, upd_lt _ _ _ _ (by omega), upd_lt _ _ _ _ hid]
  have one : ∀ id, (nL id).oneCell' = true := fun id => by
    rw [hnLd]; unfold upd; split
    · rfl
    · split
      · rfl
      · exact hs.heap.one id
  have hini : ∀ id, id < cx.m0 → nL id = cx.n0 id := fun id hid => (hnL id (Nat.lt_of_lt_of_le hid hs.heap.inx)).trans (hs.heap.ini id hid)
  have hm0 : cx.m0 ≤ s.nx + 2 := Nat.le_trans hs.heap.inx (by omega)
  have hpk := hs.heap.pick hsub hun 0 []
  have hidp : ∀ x ∈ M [] ++ (it ++ ro), nL x.1 = n x.1 := fun x hx => hnL _ (hpk.ids x hx)
  have hpsat : ∀ x ∈ M [] ++ (it ++ ro), x.2.sat nL cx.ok W1 (nL x.1) := fun x hx => by
    rw [hidp x hx]
    exact HE.sat_congr (hpk.oks x hx) hnL (HE.sat_move (hpk.ents x hx) fun g hg => hb.block g (hpk.lt x hx g hg))
  have hplt : ∀ x ∈ M [] ++ (it ++ ro), ∀ g, x.2.foot (nL x.1) g → g < w.heap.size := fun x hx g hg => hpk.lt x hx g (by rw [← hidp x hx]; exact hg)
  have hpsep : (M [] ++ (it ++ ro)).Pairwise (Sep nL) := hpk.sep.imp_of_mem fun {x y} hx hy h hm g hg hgy => h hm g (by rw [← hidp x hx]; exact hg) (by rw [← hidp y hy]; exact hgy)
  obtain ⟨sepM, sepR, sepMR⟩ := List.pairwise_append.1 hpsep
  obtain ⟨sepI, sepO, sepIO⟩ := List.pairwise_append.1 sepR
  have hMm := mOk_spec (hMok [])
  have hrm := rOk_spec hrok
  -- the caller's own
  obtain ⟨L, hLd⟩ : ∃ L, L = w.heap.size + 1 := ⟨_, rfl⟩
  obtain ⟨D, hDd⟩ : ∃ D, D = w.heap.size := ⟨_, rfl⟩
  obtain ⟨Fs, hFs⟩ : ∃ Fs : LoopState → Option Code → World → Prop, Fs = fun st pe w => w.heap[L]? = some (.loop (rec st pe)) := ⟨_, rfl⟩
  obtain ⟨G0, hG0⟩ : ∃ G0 : Nat → Prop, G0 = FP nL ((s.nx, eL L (Fs .ready none)) :: (s.nx + 1, eD D) :: M []) := ⟨_, rfl⟩
  have hG0w : ∀ g, G0 g → g < w.heap.size + 2 ∧ (g < w.heap.size → FP nL (M []) g) := fun g hg => by
    rw [hG0] at hg
    obtain ⟨x, hx, hgx⟩ := hg
    rcases List.mem_cons.1 hx with rfl | hx
    · cases hgx; exact ⟨by omega, fun h => by omega⟩
    · rcases List.mem_cons.1 hx with rfl | hx
      · cases hgx; exact ⟨by omega, fun h => by omega⟩
      · exact ⟨by have := hplt x (List.mem_append_left _ hx) g hgx; omega, fun _ => ⟨x, hx, hgx⟩⟩
  have hGok : ∀ g, (G0 g ∨ w.heap.size + 2 ≤ g) → cx.ok g := fun g hg => by
    rcases hg with hg | hg
    · rcases Nat.lt_or_ge g w.heap.size with hlt | hge
      · obtain ⟨x, hx, hgx⟩ := (hG0w g hg).2 hlt
        exact HE.foot_ok (hMm x hx).1 (hpsat x (List.mem_append_left _ hx)) g hgx
      · exact hs.heap.fr.news g (Nat.le_trans hs.heap.fr.size hge)
    · exact hs.heap.fr.news g (by have := hs.heap.fr.size; omega)
  have hrolt : ∀ g, FP nL ro g → g < w.heap.size := fun g ⟨x, hx, hgx⟩ => hplt x (List.mem_append_right _ (List.mem_append_right _ hx)) g hgx
  have hdis : ∀ g, FP nL ro g → ¬ (G0 g ∨ w.heap.size + 2 ≤ g) := fun g hg h => by
    have hlt := hrolt g hg
    rcases h with h | h
    · obtain ⟨x, hx, hgx⟩ := (hG0w g h).2 hlt
      obtain ⟨y, hy, hgy⟩ := hg
      exact sepMR x hx y (List.mem_append_right _ hy) (.inl (hMm x hx).1) g hgx hgy
    · omega
  obtain ⟨J, hJ⟩ : ∃ J : List α → (Nat → Prop) → World → Prop, J = fun pre G w1 => JG cx.ok nL s.nx L D (w.heap.size + 2) G0 (Fs .ready none) (M pre) G w1 := ⟨_, rfl⟩
  obtain ⟨Jx, hJx⟩ : ∃ Jx : List α → (Nat → Prop) → World → Prop, Jx = fun pre G w1 => ∃ c Mr, MX c pre = some Mr ∧ JG cx.ok nL s.nx L D (w.heap.size + 2) G0 (Fs .done (some c)) Mr G w1 := ⟨_, rfl⟩
  have hFst : ∀ st pe (w1 w2 : World), Fs st pe w1 → (∀ g, g = L → w2.heap[g]? = w1.heap[g]?) → Fs st pe w2 := fun st pe w1 w2 h hw => by
    rw [hFs] at h ⊢; exact (hw L rfl).trans h
  have hDst : ∀ (w1 w2 : World), w1.heap[D]? = some (.deferred (some [])) → (∀ g, g = D → w2.heap[g]? = w1.heap[g]?) → w2.heap[D]? = some (.deferred (some [])) := fun w1 w2 h hw => (hw D rfl).trans h
  have hRF1 : RFo cx.ok nL ro W1 := ⟨fun x hx => hpsat x (List.mem_append_right _ (List.mem_append_right _ hx)), fun g hg => some_of_lt (by have := hrolt g hg; omega)⟩
  have hfrW1 : Fr cx.w0 cx.ok W1 := hs.heap.fr.below hb
  have hM0 : MSat cx.ok nL ((s.nx, eL L (Fs .ready none)) :: (s.nx + 1, eD D) :: M []) W1 G0 := by
    refine ⟨fun x hx => ?_, ?_, fun g => by rw [hG0]; exact Iff.rfl, fun g hg => some_of_lt (by rw [hz]; exact (hG0w g hg).1)⟩
    · rcases List.mem_cons.1 hx with rfl | hx
      · exact ⟨by rw [hFs, hLd]; exact hL1, fun g hg => by cases hg; exact hGok L (.inl (by rw [hG0]; exact ⟨_, List.mem_cons_self, rfl⟩)), hFst _ _⟩
      · rcases List.mem_cons.1 hx with rfl | hx
        · exact ⟨by rw [hDd]; exact hD1, fun g hg => by cases hg; exact hGok D (.inl (by rw [hG0]; exact ⟨_, List.mem_cons_of_mem _ List.mem_cons_self, rfl⟩)), hDst⟩
        · exact hpsat x (List.mem_append_left _ hx)
    · refine List.pairwise_cons.2 ⟨fun y hy _ g hg hgy => ?_, List.pairwise_cons.2 ⟨fun y hy _ g hg hgy => ?_, sepM⟩⟩
      · cases hg
        rcases List.mem_cons.1 hy with rfl | hy
        · have : L = D := hgy; omega
        · have := hplt y (List.mem_append_left _ hy) L hgy; omega
      · cases hg
        have := hplt y (List.mem_append_left _ hy) D hgy; omega
  have hJ0 : J [] G0 W1 := by rw [hJ]; exact ⟨nL, fun _ _ => rfl, one, fun g hg => .inl hg, hM0⟩
  have hstJ : Stab J := fun pre G w1 w2 h hw => by rw [hJ] at h ⊢; exact JG.stab h hw
  have hstJx : Stab Jx := fun pre G w1 w2 h hw => by rw [hJx] at h ⊢; obtain ⟨c, Mr, h1, h2⟩ := h; exact ⟨c, Mr, h1, JG.stab h2 hw⟩
  -- one round
  have hY : YieldOk P L encs xs (RFo cx.ok nL ro) J Jx := by
    intro pre x G w2 hpre hJp hRF r2 m2
    have hJp' := hJp
    rw [hJ] at hJp'
    have hGw : ∀ g, G g → G0 g ∨ w.heap.size + 2 ≤ g := by obtain ⟨_, _, _, h, _⟩ := hJp'; exact h
    have hGh : ∀ g, G g → (w2.heap[g]?).isSome = true := by obtain ⟨_, _, _, _, h⟩ := hJp'; exact h.here
    have hLF : w2.heap[L]? = some (.loop (rec .ready none)) := by
      obtain ⟨n2, _, _, _, hM2⟩ := hJp'
      have := (hM2.ents _ List.mem_cons_self).1
      rwa [hFs] at this
    have hLG : G L := by obtain ⟨n2, _, _, _, hM2⟩ := hJp'; exact (hM2.foot L).2 ⟨_, List.mem_cons_self, rfl⟩
    have hLw : L < w2.heap.size := lt_of_some (hGh L hLG)
    have hy := run_yield (P := P) (args := encs x) hLF (by rw [hrec, henc x n]; simp [hps])
    rw [hrec] at hy
    refine ⟨fn, _, assign, body, hy, roundIn_of_wpIn (F := Fn r2) trivial ?_⟩
    obtain ⟨sR, hput, hwp⟩ := hround pre x hpre w2 (fun k => G k ∨ w2.heap.size ≤ k) nL L D (Fs .ready none) (Fs .busy none) hini
    obtain ⟨n2, hag2, hhs⟩ := hJp'.heap (s := s) (nt := s.nt) hRF ⟨w2, fun k => G k ∨ w2.heap.size ≤ k, nL, s.nx + 2, false⟩ (Fr.refl _ _ fun k hk => .inr hk) (fun _ _ => rfl) (Nat.le_refl _) (fun g hg => .inl hg) hdis (hMok pre) hrok rfl
    have hsat0 : Sat ⟨w2, fun k => G k ∨ w2.heap.size ≤ k, nL, s.nx + 2, false⟩ n2 ⟨s.nt, E, (s.nx, eL L (Fs .ready none)) :: (s.nx + 1, eD D) :: (M pre ++ ro), s.nx + 2, []⟩ ⟨a.tmps, []⟩ w2 := by
      refine ⟨hhs.env, hs.size, fun y hy => ?_, rfl⟩
      obtain ⟨h1, h2, h3⟩ := envSel_spec hE y hy
      have he := hs.env y h1
      refine ⟨he.lt, fun _ => ⟨?_, okB_sound (okB_nx (by simp) h3)⟩, fun hn => absurd (by rw [h2]; intro z hz; cases hz) hn⟩
      have := he.yes (by rw [h2]; intro z hz; cases hz)
      rw [this.1]
      exact (AV.c_congr (okB_sound h3) fun id hid => (hag2 id (by omega)).trans (hnL id hid)).symm
    have hsatR := putAll_sat _ _ _ _ hsat0 hput (fun y hy => okB_nx (by simp) (hea x y.2 (List.of_mem_zip hy).2))
    have htm : ((ps.toList.zip (ea x)).map fun y => (y.1, y.2.c n2)).foldl (fun t y => t.setIfInBounds y.1 y.2) a.tmps = (ps.zip (encs x)).foldl (fun t (p, v) => t.setIfInBounds p v) a.tmps := by
      rw [putAll_tmps, henc x n2, ← Array.foldl_toList]
      simp
    rw [htm] at hsatR
    refine wpIn_mono (hwp (some L) m2 (fun h => by cases h) n2 _ w2 hsatR) ?_
    rintro e a1 w3 ⟨n3, s3, hq, hs3⟩
    cases e with
    | normal =>
      obtain ⟨hf3, hbody⟩ := hq
      have hj3 := hs3.heap.ents _ (fnd_mem hf3)
      have hL3 : w3.heap[L]? = some (.loop (rec .ready none)) := by have := hj3.1; rwa [hFs] at this
      refine ⟨_, run_beginRound hL3 (by rw [hrec]), ?_⟩
      have hbusy : ∀ w3 : World, w3.heap[L]? = some (.loop (rec .ready none)) → Fs .busy none (w3.putObj L (.loop { rec .ready none with state := .busy })) := fun w3 h => by
        rw [hFs]
        refine (World.putObj_heap_same (Array.getElem?_eq_some_iff.1 h).1).trans ?_
        rw [hrec]
      have hw4 := hs3.heap.write (w' := w3.putObj L (.loop { rec .ready none with state := .busy })) (e := eL L (Fs .busy none)) hf3 rfl (g := L) rfl rfl (fun _ => rfl) (Nat.le_refl _) (hj3.2.1 L rfl) (fun k hk => World.putObj_heap_other hk) World.putObj_size rfl rfl rfl
        ⟨hbusy w3 hL3, hj3.2.1, hFst _ _⟩ trivial
      refine wpIn_mono (hbody (some L) m2 (fun h => by cases h) n3 a1 _ (env_hp hs3 (more_rep hf3 (Nat.le_refl _)) hw4)) ?_
      rintro e2 a2 w5 ⟨n5, s5, hq5, hs5⟩
      have fin : ∀ (jump : Option Code) (Mr : List (Nat × HE)), Le ⟨w2, fun k => G k ∨ w2.heap.size ≤ k, nL, s.nx + 2, false⟩ s5 ⟨s.nt, [], (s.nx, eL L (Fs .busy none)) :: (s.nx + 1, eD D) :: (Mr ++ ro), s.nx + 2, []⟩ → mOk s s.nx Mr = true →
          ∃ w6 G', (Instr.endRound L jump).run P w5 = .ok (.bool jump.isNone) w6 ∧ (∀ g, G' g → G g ∨ w2.heap.size ≤ g) ∧ (∀ g, G' g → g < w6.heap.size) ∧ FrS w2 G w6 ∧ JG cx.ok nL s.nx L D (w.heap.size + 2) G0 (Fs (if jump.isNone then .ready else .done) jump) Mr G' w6 := fun jump Mr hle hMr => by
        obtain ⟨n6, hs6⟩ := hle n5 a2 w5 hs5
        have hL5 : w5.heap[L]? = some (.loop (rec .busy none)) := by
          have := (hs6.heap.ents _ List.mem_cons_self).1
          rwa [hFs] at this
        have hrun := run_endRound (P := P) jump hL5
        have hobj : Fs (if jump.isNone then .ready else .done) jump (w5.putObj L (.loop { rec .busy none with state := if jump.isNone then .ready else .done, pending := jump })) := by
          rw [hFs]
          refine (World.putObj_heap_same (Array.getElem?_eq_some_iff.1 hL5).1).trans ?_
          rw [hrec]
        obtain ⟨hJ6, hfp6⟩ := JG.of (ok := cx.ok) (nL := nL) (B := w.heap.size + 2) (G0 := G0) (F' := Fs (if jump.isNone then .ready else .done) jump) hs6.heap (fun x hx => (mOk_spec hMr x hx).1) (fun id hid => hs6.heap.ini id hid) hobj (hFst _ _)
          (fun g hg _ => by
            rcases hg with hg | hg
            · exact hGw g hg
            · right; have := hLw; omega) hGok
        refine ⟨_, _, hrun, fun g hg => (hfp6 g hg).1, fun g hg => by rw [World.putObj_size]; exact (hfp6 g hg).2, ?_, hJ6⟩
        exact hs6.heap.fr.grown (grownBy_putObj' w5 L _) (fun g hg => by cases hg; exact .inl hLG)
      cases e2 with
      | normal =>
        obtain ⟨w6, G', hr, h1, h2, h3, h4⟩ := fin none _ hq5 (hMok _)
        exact ⟨_, _, hr, G', h1, h2, h3, .inl ⟨rfl, by rw [hJ]; exact h4⟩⟩
      | ret =>
        obtain ⟨Mr, hMr, hle⟩ := hq5
        obtain ⟨w6, G', hr, h1, h2, h3, h4⟩ := fin (some .ret) _ hle (hXok _ _ _ hMr)
        exact ⟨_, _, hr, G', h1, h2, h3, .inr ⟨rfl, by rw [hJx]; exact ⟨_, Mr, hMr, h4⟩⟩⟩
      | exit i =>
        obtain ⟨Mr, hMr, hle⟩ := hq5
        obtain ⟨w6, G', hr, h1, h2, h3, h4⟩ := fin (some (.exit i)) _ hle (hXok _ _ _ hMr)
        exact ⟨_, _, hr, G', h1, h2, h3, .inr ⟨rfl, by rw [hJx]; exact ⟨_, Mr, hMr, h4⟩⟩⟩
      | goto i =>
        obtain ⟨Mr, hMr, hle⟩ := hq5
        obtain ⟨w6, G', hr, h1, h2, h3, h4⟩ := fin (some (.goto i)) _ hle (hXok _ _ _ hMr)
        exact ⟨_, _, hr, G', h1, h2, h3, .inr ⟨rfl, by rw [hJx]; exact ⟨_, Mr, hMr, h4⟩⟩⟩
      | panic c => exact hq5.elim
      | outgrown => exact hq5.elim
    | _ => exact hq.elim
  -- the iterator's heap
  have hhI : HSat cx nL ⟨0, [], (s.nx, .jf (J [] G0) G0) :: (s.nx + 1, .pf (RFo cx.ok nL ro) (FP nL ro)) :: (it ++ ro), s.nx + 2, []⟩ W1 := by
    have hin : ∀ x ∈ it ++ ro, x ∈ M [] ++ (it ++ ro) := fun x hx => List.mem_append_right _ hx
    refine ⟨hfrW1, hini, hm0, one, fun x hx => ?_, fun x hx => ?_, ?_, fun x hx g hg => ?_, fun x hx => ?_⟩
    · rcases List.mem_cons.1 hx with rfl | hx
      · exact ⟨hJ0, fun g hg => hGok g (.inl hg), fun w1 w2 h hw => hstJ _ _ w1 w2 h hw⟩
      · rcases List.mem_cons.1 hx with rfl | hx
        · exact ⟨hRF1, fun w1 w2 h hw => h.stab hw⟩
        · exact hpsat x (hin x hx)
    · rcases List.mem_cons.1 hx with rfl | hx
      · trivial
      · rcases List.mem_cons.1 hx with rfl | hx
        · trivial
        · refine HE.ok_more (hpk.oks x (hin x hx)) ⟨by simp, fun id hid e he => ?_⟩
          have hne : ∀ y, (y = s.nx ∨ y = s.nx + 1) → y ≠ id := fun y hy => by simp only at hid; omega
          have h1 : fnd ((s.nx, HE.jf (J [] G0) G0) :: (s.nx + 1, HE.pf (RFo cx.ok nL ro) (FP nL ro)) :: (it ++ ro)) id = some e := he
          rw [fnd_cons_ne (hne _ (.inl rfl)), fnd_cons_ne (hne _ (.inr rfl))] at h1
          refine ⟨e, ?_, Nat.le_refl _⟩
          have hmem := fnd_mem h1
          have huq := uniq_spec hun
          have hall : ∀ (l : List (Nat × HE)), l.Pairwise (fun x y => x.1 ≠ y.1) → ∀ x ∈ l, fnd l x.1 = some x.2 := fun l => by
            induction l with
            | nil => intro _ x hx; cases hx
            | cons y r ih =>
              intro hp x hx
              obtain ⟨p1, p2⟩ := List.pairwise_cons.1 hp
              rcases List.mem_cons.1 hx with rfl | hx
              · simp only [fnd, Nat.beq_refl, cond_true]
              · rw [fnd_cons_ne (p1 x hx)]; exact ih p2 x hx
          exact hall _ huq (id, e) (hin _ hmem)
    · refine List.pairwise_cons.2 ⟨fun y hy _ g hg hgy => ?_, List.pairwise_cons.2 ⟨fun y hy hm g hg hgy => ?_, sepR⟩⟩
      · rcases List.mem_cons.1 hy with rfl | hy
        · exact hdis g hgy (.inl hg)
        · have hlt := hplt y (hin y hy) g hgy
          obtain ⟨x, hx, hgx⟩ := (hG0w g hg).2 hlt
          exact sepMR x hx y hy (.inl (hMm x hx).1) g hgx hgy
      · obtain ⟨x, hx, hgx⟩ := hg
        rcases List.mem_append.1 hy with hy | hy
        · exact sepIO y hy x hx (.inl (hm.resolve_left (by simp [HE.mut]))) g hgy hgx
        · have := (hrm y hy).1
          rcases hm with h | h
          · simp [HE.mut] at h
          · rw [this] at h; cases h
    · rcases List.mem_cons.1 hx with rfl | hx
      · rw [hz]; exact (hG0w g hg).1
      · rcases List.mem_cons.1 hx with rfl | hx
        · have := hrolt g hg; omega
        · have := hplt x (hin x hx) g hg; omega
    · rcases List.mem_cons.1 hx with rfl | hx
      · simp
      · rcases List.mem_cons.1 hx with rfl | hx
        · simp
        · have : x.1 < s.nx := hpk.ids x (hin x hx)
          exact Nat.lt_add_right 2 this
  have hcall := hit cx nL W1 L _ _ J Jx G0 hstJ hstJx hY hhI
  have hcap : caps.map (AV.c nL) = caps.map (AV.c n) := List.map_congr_left fun v hv => AV.c_congr (okB_sound (hcaps v hv)) hnL
  rw [hcap] at hcall
  obtain ⟨gfn, hgfn, hgb⟩ := Option.map_eq_some_iff.1 hgo
  simp only [Bool.and_eq_true] at hgb
  have hnone : gfn.body.isNone = false := by
    cases hbo : gfn.body with
    | none => rw [hbo] at hgb; cases hgb.2
    | some b => rfl
  have hname : (gfn.name == "runtime.NumGoroutine") = false := by
    have := hgb.1
    simpa [bne] using this
  refine ⟨w.heap.size + 1, [{ target := .collected w.heap.size, args := #[] }], W1, { target := .fn (.func gf) (caps.map (AV.c n)).toArray, args := #[.func (.yield (w.heap.size + 1)) #[] #[]] }, W1, gf,
    #[.func (.yield (w.heap.size + 1)) #[] #[]] ++ (caps.map (AV.c n)).toArray, W1, ?_, ?_, fun _ _ => trivial, ?_, fun h => by simp [Fn, Fence.wide] at h, callsIn_Fn ?_⟩
  · rw [← hW1, hrec]; exact run_enterLoop_outer _ _ _ _ _
  · simp only [resolve, ef]
    simp [go_sem]
  · simp only [invoke, callFunc, Sem.run_bind, run_program, Result.andThen_ok, hgfn, hname, hnone]
    simp
  · rw [← hLd]
    refine hcall.mono ?_
    rintro e w7 ⟨⟨v, rfl⟩, n', G', pre, hag', hend⟩
    have hfr7 : Fr cx.w0 cx.ok w7 := by rcases hend with ⟨_, h⟩ | ⟨_, h⟩ <;> exact h.fr
    have hRF7 : RFo cx.ok nL ro w7 := by
      rcases hend with ⟨_, h⟩ | ⟨_, h⟩ <;> exact (h.ents _ (List.mem_cons_of_mem _ List.mem_cons_self)).1
    have satOf : ∀ (Mr : List (Nat × HE)) (nx : Vn) (w8 : World), (∀ id, id < s.nx + 2 → nx id = nL id) → HSat cx nx ⟨s.nt, [], (s.nx + 1, eD D) :: (Mr ++ ro), s.nx + 2, D :: s.df⟩ w8 →
        Sat cx nx ⟨s.nt, E, (s.nx + 1, eD D) :: (Mr ++ ro), s.nx + 2, D :: s.df⟩ { a with defers := [{ target := .collected w.heap.size, args := #[] }] ++ a.defers } w8 := fun Mr nx w8 hagx hh => by
      refine ⟨hh.env, hs.size, fun y hy => ?_, by simp only [hs.defers, marks, List.map_cons, hDd]; rfl⟩
      obtain ⟨h1, h2, h3⟩ := envSel_spec hE y hy
      have he := hs.env y h1
      refine ⟨he.lt, fun _ => ⟨?_, okB_sound (okB_nx (by simp) h3)⟩, fun hn => absurd (by rw [h2]; intro z hz; cases hz) hn⟩
      have := he.yes (by rw [h2]; intro z hz; cases hz)
      rw [this.1]
      exact (AV.c_congr (okB_sound h3) fun id hid => (hagx id (by omega)).trans (hnL id hid)).symm
    rcases hend with ⟨rfl, hh⟩ | ⟨hpre, hh⟩
    · have hJ7 := (hh.ents _ List.mem_cons_self).1
      rw [hJ] at hJ7
      have hL7 : w7.heap[L]? = some (.loop (rec .ready none)) := by
        obtain ⟨_, _, _, _, hM7⟩ := hJ7
        have := (hM7.ents _ List.mem_cons_self).1
        rwa [hFs] at this
      have hrun := run_endLoop (P := P) hL7 (by rw [hrec]; simp)
      obtain ⟨n8, hag8, hh8⟩ := JG.after (s := s) (nt := s.nt) (df := D :: s.df) (.loop { rec .ready none with state := .exhausted }) hJ7 hRF7 hfr7 hini hm0 hGok hdis (hMok _) hrok rfl
      refine ⟨none, _, by rw [hrun, hrec], ⟨n8, _, hdone D, satOf _ n8 _ hag8 ?_⟩⟩
      rw [hrec] at hh8
      exact hh8
    · have hJ7 := (hh.ents _ List.mem_cons_self).1
      rw [hJx] at hJ7
      obtain ⟨c, Mr, hMr, hJ7⟩ := hJ7
      have hL7 : w7.heap[L]? = some (.loop (rec .done (some c))) := by
        obtain ⟨_, _, _, _, hM7⟩ := hJ7
        have := (hM7.ents _ List.mem_cons_self).1
        rwa [hFs] at this
      have hrun := run_endLoop (P := P) hL7 (by rw [hrec]; simp)
      obtain ⟨n8, hag8, hh8⟩ := JG.after (s := s) (nt := s.nt) (df := D :: s.df) (.loop { rec .done (some c) with state := .exhausted }) hJ7 hRF7 hfr7 hini hm0 hGok hdis (hXok _ _ _ hMr) hrok rfl
      refine ⟨some c, _, by rw [hrun, hrec], hstop D c pre Mr hMr hpre none m' ht n8 _ _ (satOf _ n8 _ hag8 ?_)⟩
      rw [hrec] at hh8
      exact hh8
end
end Go.Proofs.YtamimgmoomcipaaDoor.Eng
namespace Go.Proofs.YtamimgmoomcipaaDoor.Eng
open Go Go.RowKit
set_option linter.unusedVariables false
set_option linter.unusedSimpArgs false
section
variable {P : Program} {tt : TT} {cx : Cx} {s s' : AS} {Q : Exit → AS → Prop}
def RetQM (tt : TT) (cx : Cx) (rs : List ResultVar) (R : Ending → World → Prop) : Exit → AS → Prop
  | .normal, s | .ret, s => (∃ r, resA tt s rs = some r ∧ ∀ n w, HSat cx n s w → R (.returned (r.c n)) w) ∨
    (∃ r D id, s.df = [D] ∧ fnd s.hp id = some (eD D) ∧ resM tt { s with hp := rem s.hp id } rs = some r ∧ ∀ n w, HSat cx n { s with hp := rem s.hp id } w → R (.returned (r.c n)) w)
  | _, _ => False
theorem mark_gone {n : Vn} {a : Act} {w : World} {D id : Nat} (hs : Sat cx n s a w) (hf : fnd s.hp id = some (eD D)) (o : Obj) : Sat cx n { s with hp := rem s.hp id } a (w.putObj D o) := by
  have hs1 : Sat cx n { s with hp := rem s.hp id } a w := env_hp hs (rem_more s id) (hs.heap.rem id)
  refine ⟨?_, hs1.size, hs1.env, hs1.defers⟩
  have hD := hs.heap.ents _ (fnd_mem hf)
  refine hs1.heap.move (hs.heap.fr.grown (grownBy_putObj' w D o) (fun g hg => by cases hg; exact hD.2.1 _ rfl)) (by rw [World.putObj_size]; exact Nat.le_refl _) fun x hx g hg => World.putObj_heap_other fun e => ?_
  have hsym : ∀ (x y : Nat × HE), Sep n x y → Sep n y x := fun x y h hm g h1 h2 => h hm.symm g h2 h1
  exact pw_mem hsym hs.heap.sep ((rem_sub s.hp id).subset hx) (fnd_mem hf) (fun e => rem_ne hx (by rw [e])) (.inr rfl) g hg e
theorem calls_of_WPM (hT : TTok P tt) {k : FuncId} {fn : Func} {c : Code} {n : Vn} {w : World} {hp : List (Nat × HE)} {nx nt : Nat} {vs : List AV} {rs : List ResultVar} {R : Ending → World → Prop} (hf : P.funcs[k]? = some fn) (hb : fn.body = some c) (hnt : fn.ntmps = nt) (hrs : fn.results.toList = rs)
    (hl : Nat.ble vs.length nt = true) (hh : HSat cx n ⟨nt, env0 0 vs, hp, nx, []⟩ w) (hv : ∀ v ∈ vs, v.ok ⟨nt, env0 0 vs, hp, nx, []⟩)
    (h : WP P cx ⟨nt, env0 0 vs, hp, nx, []⟩ c (RetQM tt cx rs R)) : Calls P k (vs.map (AV.c n)).toArray w R := by
  subst hnt
  have hl := Nat.le_of_ble_eq_true hl
  refine callsIn_wide.1 (callsIn_of_wp_marks (F := Fence.wide) (n := 0) hf hb trivial ?_)
  have hs : Sat cx n ⟨fn.ntmps, env0 0 vs, hp, nx, []⟩ { tmps := (vs.map (AV.c n)).toArray ++ Array.replicate (fn.ntmps - (vs.map (AV.c n)).toArray.size) undef, defers := [] } w := by
    refine ⟨hh, by simp; omega, fun x hx => ?_, rfl⟩
    obtain ⟨j, h1, h2, h3⟩ := env0_mem hx
    obtain ⟨hj, h2'⟩ := List.getElem?_eq_some_iff.1 h2
    refine ⟨by simp only; omega, fun _ => ⟨?_, hv _ (List.mem_of_getElem? h2)⟩, fun hn => absurd (by rw [h3]; intro y hy; cases hy) hn⟩
    rw [h1, Nat.zero_add]
    simp [Array.getD_eq_getD_getElem?, Array.getElem?_append, hj, h2']
  have fin : ∀ (n' : Vn) (s' : AS) (a : Act) (w' : World), Sat cx n' s' a w' → ((∃ r, resA tt s' rs = some r ∧ ∀ n w, HSat cx n s' w → R (.returned (r.c n)) w) ∨
      (∃ r D id, s'.df = [D] ∧ fnd s'.hp id = some (eD D) ∧ resM tt { s' with hp := rem s'.hp id } rs = some r ∧ ∀ n w, HSat cx n { s' with hp := rem s'.hp id } w → R (.returned (r.c n)) w)) →
      LeavesInM Fence.wide 0 P fn a.tmps R a.defers .returning w' := fun n' s' a w' hs' hq => by
    rcases hq with ⟨r, hr, hR⟩ | ⟨r, D, id, hd, hf, hr, hR⟩
    · obtain ⟨hd, hr⟩ := resA_spec hr
      rw [hs'.defers, hd]
      exact ⟨_, resA_sound hT hs' (by rw [hrs]; exact hr), hR n' w' hs'.heap⟩
    · have hD : w'.heap[D]? = some (.deferred (some [])) := (hs'.heap.ents _ (fnd_mem hf)).1
      have hs2 := mark_gone hs' hf (.deferred none)
      rw [hs'.defers, hd]
      exact ⟨by simp, .inl ⟨D, _, rfl, run_takeDeferred hD, _, resA_sound hT hs2 (by rw [hrs]; exact hr), hR n' _ hs2.heap⟩⟩
  refine wpIn_mono (h none 0 (fun _ => rfl) n _ w hs) fun e a w' ⟨n', s', hq, hs'⟩ => ?_
  cases e with
  | normal => exact fin n' s' a w' hs' hq
  | ret => exact fin n' s' a w' hs' hq
  | _ => exact hq.elim
theorem HSat.top {n : Vn} {w : World} {b : Bool} (h : HSat cx n s w) : HSat ⟨cx.w0, cx.ok, n, s.nx, b⟩ n s w := ⟨h.fr, fun _ _ => rfl, Nat.le_refl _, h.one, h.ents, h.oks, h.sep, h.lt, h.ids⟩
theorem HSat.back {n n' : Vn} {m : Nat} {w : World} {b : Bool} (h : HSat ⟨cx.w0, cx.ok, n, m, b⟩ n' s w) (h1 : ∀ id, id < cx.m0 → n id = cx.n0 id) (h2 : cx.m0 ≤ m) : HSat cx n' s w :=
  ⟨h.fr, fun id hid => (h.ini id (Nat.lt_of_lt_of_le hid h2)).trans (h1 id hid), Nat.le_trans h2 h.inx, h.one, h.ents, h.oks, h.sep, h.lt, h.ids⟩
theorem HSat.slots {n : Vn} {w : World} {nt nt' : Nat} {e e' : List (Nat × List (Nat × Bool) × AV)} {hp : List (Nat × HE)} {nx : Nat} {df df' : List Nat} (h : HSat cx n ⟨nt, e, hp, nx, df⟩ w) : HSat cx n ⟨nt', e', hp, nx, df'⟩ w :=
  ⟨h.fr, h.ini, h.inx, h.one, h.ents, fun x hx => HE.ok_same (h.oks x hx) rfl rfl, h.sep, h.lt, h.ids⟩
def FEq (a b : List (Nat × HE)) : List Nat → Prop
  | [] => True
  | i :: r => fnd a i = fnd b i ∧ FEq a b r
theorem FEq.all {a b : List (Nat × HE)} {l : List Nat} (h : FEq a b l) : ∀ i ∈ l, fnd a i = fnd b i := by
  induction l with
  | nil => intro i hi; cases hi
  | cons y r ih =>
    intro i hi
    rcases List.mem_cons.1 hi with rfl | hi
    · exact h.1
    · exact ih h.2 i hi
theorem Fz.fnds {s0 : AS} (ids : List Nat) (h : Fz s0 s) (h0 : s0.hp.map (·.1) = ids) (h1 : FEq s'.hp s.hp ids) (h2 : Nat.ble s.nx s'.nx = true) : Fz s0 s' := by
  refine ⟨Nat.le_trans h.nx (Nat.le_of_ble_eq_true h2), ?_, h.un⟩
  have hall := h1.all
  have all : ∀ l : List (Nat × HE), (∀ x ∈ l, x.1 ∈ ids) → SubP s.hp l → SubP s'.hp l := fun l => by
    induction l with
    | nil => intro _ _; trivial
    | cons y r ih =>
      intro hl hs
      exact ⟨(hall _ (hl y List.mem_cons_self)).trans hs.1, ih (fun x hx => hl x (List.mem_cons_of_mem _ hx)) hs.2⟩
  exact all _ (fun x hx => by rw [← h0]; exact List.mem_map.2 ⟨x, hx, rfl⟩) h.sub
theorem WPO_end {ops : Array Oper} {l : List Oper} (h : l.isEmpty = true) (hq : Q .normal s) : WPO P cx ops l s Q := by
  cases l with
  | nil => exact WPO_nil hq
  | cons o r => cases h
def JQ (cx : Cx) (S : AS) (Q : Exit → AS → Prop) : Exit → AS → Prop
  | .normal, s' => Le cx s' S
  | e, s' => Q e s'
theorem WP_join {c : Operand} {x y : Code} (b : Bool) (S : Bool → AS) (hc : ev s [] c = some (.s (.bool b))) (ht1 : b = true → WP P cx s x (JQ cx (S true) Q)) (hf : b = false → WP P cx s y (JQ cx (S false) Q)) (hK : Q .normal (S b)) : WP P cx s (.cond c x y) Q := by
  have key : ∀ (S0 : AS), Q .normal S0 → ∀ e a w, Post cx (JQ cx S0 Q) e a w → Post cx Q e a w := fun S0 hq e a w ⟨n, s', h, hs⟩ => by
    cases e with
    | normal => obtain ⟨n', hs'⟩ := h n a w hs; exact ⟨n', S0, hq, hs'⟩
    | _ => exact ⟨n, s', h, hs⟩
  refine WP_cond b hc (fun h => ?_) (fun h => ?_)
  · subst h; exact fun r m ht n a w hs => wpIn_mono (ht1 rfl r m ht n a w hs) (key _ hK)
  · subst h; exact fun r m ht n a w hs => wpIn_mono (hf rfl r m ht n a w hs) (key _ hK)
def arrEq {α : Type} [BEq α] (m : Nat) (f g : Nat → α) : Bool := ((List.range m).map f) == ((List.range m).map g)
theorem arrB_map (m : Nat) (f : Nat → Bool) : arrB m f = ((List.range m).map f).map AC.bool := by simp [arrB]
theorem BinOk_fBn {m : Nat} {t : TypeId} {x y : Operand} (h : arrOf P (isBl P) t m = true) (f g : Nat → Bool) : BinOk P cx s .neq t x y (.g (arrB m f)) (.g (arrB m g)) (.s (.bool (!(arrEq m f g)))) := by
  rw [arrB_map, arrB_map]; exact (BinOk_arrB h (by simp) (by simp)).2
theorem sb_arrB {n : Vn} {w : World} (hh : HSat cx n s w) {id m : Nat} {ty : TypeId} {f : Nat → Bool} (hf : fnd s.hp id = some (.box ty (arrB m f))) {i j : Nat} (hi : i ≤ j) (hj : j ≤ m) (hm : m ≤ 1000000) :
    Reads w ((AC.sb id 0 1 i j m).c n) 1 ((List.range (j - i)).map fun q => f (i + q)) (fun x => [Value.bool x]) false := by
  refine sb_reads hh hf (off := 0) ⟨hi, hj, Nat.le_refl _⟩ (by simp [arrB]) (by have : maxLen = 9223372036854775807 := rfl; omega) AC.bool Value.bool (fun _ => rfl) _ _ (by simp) fun q hq => ?_
  rw [arrB_get (by omega)]
  simp [hq]
theorem BinOk_b {t : TypeId} {x y : Operand} (h : isBl P t = true) (a b : Bool) : BinOk P cx s .eql t x y (.s (.bool a)) (.s (.bool b)) (.s (.bool (a == b))) := fun n w _ => by
  have hb := isBl_spec h
  simp only [AV.c, AC.c]
  simp [eqGuard, binOp, Op.equal, Op.maxDepth, run_equalIn_bool' w 9999 t a b hb]
theorem vsOk {vs : List AV} (h : heOk.go s vs = true) : ∀ v ∈ vs, v.ok s := fun v hv => okB_sound (heOk_go h v hv)
theorem goes_of {k : FuncId} (h : (P.funcs[k]?).map (fun f => f.name != "runtime.NumGoroutine" && f.body.isSome) = some true) : goes P k := h
end
end Go.Proofs.YtamimgmoomcipaaDoor.Eng
namespace Go.Proofs.YtamimgmoomcipaaDoor.Fw
open Go Go.RowKit Go.Proofs.YtamimgmoomcipaaDoor.Eng
set_option linter.unusedVariables false
set_option linter.unusedSimpArgs false
structure Span where (lo hi : Int)
structure Ship where (m : Int) (aw sp : Span)
structure Sight where (ship m : Int) (aw : Span)
structure Book where
  ships : List Ship
  hear : Span
  br : Int
  cr : Int
  sl : Int
  sights : List Sight
def zSpan : Span := ⟨0, 0⟩
def zShip : Ship := ⟨0, zSpan, zSpan⟩
def zSight : Sight := ⟨0, 0, zSpan⟩
abbrev iv (x : Int) : Value := .int .i64 x
abbrev ai (x : Int) : AC := .int .i64 x
abbrev wr (x : Int) : Int := IntKind.i64.wrap x
def encShip (x : Ship) : List Value := [iv x.m, iv x.aw.lo, iv x.aw.hi, iv x.sp.lo, iv x.sp.hi]
def encSight (x : Sight) : List Value := [iv x.ship, iv x.m, iv x.aw.lo, iv x.aw.hi]
def bookV (sv gv : Value) (b : Book) : Value := .agg #[sv, iv b.hear.lo, iv b.hear.hi, iv b.br, iv b.cr, iv b.sl, gv]
def bookA (b : Book) : List AC := [.ref 0, ai b.hear.lo, ai b.hear.hi, ai b.br, ai b.cr, ai b.sl, .ref 1]
abbrev hpB (b : Book) : List (Nat × HE) := [(0, .sl .ro 65 5 b.ships encShip zShip), (1, .sl .ro 70 4 b.sights encSight zSight)]
def withinF (n low high : Int) : Bool := decide (low ≤ n) && decide (n ≤ high)
theorem within_calls (n low high : Int) (w : World) : Calls Tryd.prog 88 #[iv n, iv low, iv high] w fun e w' => e = .returned (.bool (withinF n low high)) ∧ Below w.heap.size w w' := by
  refine calls_of_WP (cx := cx0 w Eng.n0 0) (n := Eng.n0) (vs := [.s (ai n), .s (ai low), .s (ai high)]) (hp := []) (nx := 0) tt_ok Tryd.func88 rfl rfl rfl (by kernel_rfl) (HSat0 _ _ _ _ _ _ (fun _ => rfl) (Nat.le_refl _)) (by simp [AV.ok, AC.ok]) ?_
  refine WP_seq (WP_region (WPO_all tt_ok (by kernel_rfl) ?_))
  refine WP_seq (WP_region (WPO_all tt_ok (by kernel_rfl) ?_))
  refine WP_ret ?_
  exact ⟨.s (.bool (withinF n low high)), by kernel_rfl, fun n w' h => ⟨rfl, h.bel⟩⟩
def isSpanW (lo hi low high wide : Int) : Bool := decide (low ≤ lo) && decide (lo ≤ hi) && decide (hi ≤ high) && decide (wr (hi - lo) ≤ wide)
theorem isSpan_calls (lo hi low high wide : Int) (w : World) : Calls Tryd.prog 87 #[.agg #[iv lo, iv hi], iv low, iv high, iv wide] w fun e w' => e = .returned (.bool (isSpanW lo hi low high wide)) ∧ Below w.heap.size w w' := by
  refine calls_of_WP (cx := cx0 w Eng.n0 0) (n := Eng.n0) (vs := [.g [ai lo, ai hi], .s (ai low), .s (ai high), .s (ai wide)]) (hp := []) (nx := 0) tt_ok Tryd.func87 rfl rfl rfl (by kernel_rfl) (HSat0 _ _ _ _ _ _ (fun _ => rfl) (Nat.le_refl _)) (by simp [AV.ok, AC.ok, cellsOk]) ?_
  refine WP_seq (WP_region (WPO_all tt_ok (by kernel_rfl) ?_))
  refine WP_seq (WP_region (WPO_all tt_ok (by kernel_rfl) ?_))
  refine WP_ret ?_
  exact ⟨.s (.bool (isSpanW lo hi low high wide)), by kernel_rfl, fun n w' h => ⟨rfl, h.bel⟩⟩
theorem isBegin_calls (n : Int) (w : World) : Calls Tryd.prog 78 #[iv n] w fun e w' => e = .returned (.bool (withinF n 0 60)) ∧ Below w.heap.size w w' := by
  refine calls_of_WP (cx := cx0 w Eng.n0 0) (n := Eng.n0) (vs := [.s (ai n)]) (hp := []) (nx := 0) tt_ok Tryd.func78 rfl rfl rfl (by kernel_rfl) (HSat0 _ _ _ _ _ _ (fun _ => rfl) (Nat.le_refl _)) (by simp [AV.ok, AC.ok]) ?_
  refine WP_seq (WP_region (WPO_all tt_ok (by kernel_rfl) ?_))
  refine WP_seq (WP_region (WPO_run tt_ok 1 (by kernel_rfl) ?_))
  refine CALL 88 [.s (ai n), .s (ai 0), .s (ai 60)] (.s (.bool (withinF n 0 60))) [] (by kernel_rfl) (goes_of (by kernel_rfl)) (by kernel_rfl) (by kernel_rfl) (fun _ _ w _ => within_calls n 0 60 w) ?_
  refine WPO_all tt_ok (by kernel_rfl) ?_
  refine WP_ret ?_
  exact ⟨.s (.bool (withinF n 0 60)), by kernel_rfl, fun n w' h => ⟨rfl, h.bel⟩⟩
theorem isMinute_calls (n : Int) (w : World) : Calls Tryd.prog 85 #[iv n] w fun e w' => e = .returned (.bool (withinF n 0 200)) ∧ Below w.heap.size w w' := by
  refine calls_of_WP (cx := cx0 w Eng.n0 0) (n := Eng.n0) (vs := [.s (ai n)]) (hp := []) (nx := 0) tt_ok Tryd.func85 rfl rfl rfl (by kernel_rfl) (HSat0 _ _ _ _ _ _ (fun _ => rfl) (Nat.le_refl _)) (by simp [AV.ok, AC.ok]) ?_
  refine WP_seq (WP_region (WPO_all tt_ok (by kernel_rfl) ?_))
  refine WP_seq (WP_region (WPO_run tt_ok 1 (by kernel_rfl) ?_))
  refine CALL 88 [.s (ai n), .s (ai 0), .s (ai 200)] (.s (.bool (withinF n 0 200))) [] (by kernel_rfl) (goes_of (by kernel_rfl)) (by kernel_rfl) (by kernel_rfl) (fun _ _ w _ => within_calls n 0 200 w) ?_
  refine WPO_all tt_ok (by kernel_rfl) ?_
  refine WP_ret ?_
  exact ⟨.s (.bool (withinF n 0 200)), by kernel_rfl, fun n w' h => ⟨rfl, h.bel⟩⟩
end Go.Proofs.YtamimgmoomcipaaDoor.Fw
namespace Go.Proofs.YtamimgmoomcipaaDoor.Fw
open Go Go.RowKit Go.Proofs.YtamimgmoomcipaaDoor.Eng
set_option linter.unusedVariables false
set_option linter.unusedSimpArgs false
structure BookAt (w : World) (sv gv : Value) (b : Book) : Prop where
  ships : Reads w sv 5 b.ships encShip zShip
  sights : Reads w gv 4 b.sights encSight zSight
theorem BookAt.below {w w' : World} {sv gv : Value} {b : Book} (h : BookAt w sv gv b) (hb : Below w.heap.size w w') : BookAt w' sv gv b := ⟨Reads.below (by decide) h.ships hb, Reads.below (by decide) h.sights hb⟩
theorem HSat_book {w : World} {sv gv : Value} {b : Book} (h : BookAt w sv gv b) {nt : Nat} {e : List (Nat × List (Nat × Bool) × AV)} : HSat (cx0 w (vn [sv, gv]) 2) (vn [sv, gv]) ⟨nt, e, hpB b, 2, []⟩ w :=
  HSat_args (vn_one (by simp [h.ships.one, h.sights.one])) (Nat.le_refl _) ⟨⟨⟨fun _ => rfl, by decide, h.ships⟩, (Nat.le_of_ble_eq_true rfl)⟩, ⟨⟨fun _ => rfl, by decide, h.sights⟩, (Nat.le_of_ble_eq_true rfl)⟩, trivial⟩
theorem Reads.len {w : World} {v : Value} {sz : Nat} {α : Type} {l : List α} {enc : α → List Value} {z : α} (h : Reads w v sz l enc z) : (l.length : Int) ≤ 9223372036854775807 := by
  obtain ⟨A, c, _, h1, h2, _⟩ := h
  have : maxLen = 9223372036854775807 := rfl
  omega
theorem wr_id {x : Int} (h1 : -9223372036854775808 ≤ x) (h2 : x ≤ 9223372036854775807) : wr x = x := by
  show IntKind.i64.wrap x = x
  simp [IntKind.wrap, IntKind.bits, IntKind.signed] 
  omega
theorem HSat_toBook {cx : Cx} {n : Vn} {s : AS} {w : World} {b : Book} (h : HSat cx n s w) (h0 : fnd s.hp 0 = some (.sl .ro 65 5 b.ships encShip zShip)) (h1 : fnd s.hp 1 = some (.sl .ro 70 4 b.sights encSight zSight)) : BookAt w (n 0) (n 1) b := ⟨h.reads h0, h.reads h1⟩
theorem wrapI {x : Int} (h1 : -9223372036854775808 ≤ x) (h2 : x ≤ 9223372036854775807) : IntKind.i64.wrap x = x := wr_id h1 h2
theorem isShip_calls (sv gv : Value) (b : Book) (n : Int) (w : World) (hb : BookAt w sv gv b) : Calls Tryd.prog 84 #[bookV sv gv b, iv n] w fun e w' => e = .returned (.bool (withinF n 0 (b.ships.length - 1))) ∧ Below w.heap.size w w' := by
  refine calls_of_WP (cx := cx0 w (vn [sv, gv]) 2) (n := vn [sv, gv]) (vs := [.g (bookA b), .s (ai n)]) (hp := hpB b) (nx := 2) tt_ok Tryd.func84 rfl rfl rfl (by kernel_rfl) (HSat_book hb) (by simp [AV.ok, cellsOk, AC.ok, bookA]) ?_
  refine WP_seq (WP_region (WPO_all tt_ok (by kernel_rfl) ?_))
  refine WP_seq (WP_region (WPO_run tt_ok 5 (by kernel_rfl) ?_))
  have hl := Reads.len hb.ships
  refine CALL 88 [.s (ai n), .s (ai 0), .s (ai (wr (b.ships.length - 1)))] (.s (.bool (withinF n 0 (wr (b.ships.length - 1))))) [] (by kernel_rfl) (goes_of (by kernel_rfl)) (by kernel_rfl) (by kernel_rfl) (fun _ _ w _ => within_calls _ _ _ w) ?_
  refine WPO_all tt_ok (by kernel_rfl) ?_
  refine WP_ret ?_
  exact ⟨.s (.bool (withinF n 0 (wr (b.ships.length - 1)))), by kernel_rfl, fun n w' h => ⟨by rw [wr_id (by omega) (by omega)]; rfl, h.bel⟩⟩
def okShipW (x : Ship) : Bool := withinF x.m 0 60 && isSpanW x.aw.lo x.aw.hi 1 120 6 && isSpanW x.sp.lo x.sp.hi 1 12 2
def okHeadW (b : Book) : Bool := decide ((b.ships.length : Int) ≤ 4) && isSpanW b.hear.lo b.hear.hi 1 120 10 && decide ((b.sights.length : Int) ≤ 5)
def okMidW (b : Book) : Bool := okHeadW b && withinF b.br 0 10 && withinF b.cr 1 20 && withinF b.sl 0 15
def okShipsW (b : Book) : Bool := okMidW b && b.ships.all okShipW
def okSightW (b : Book) (x : Sight) : Bool := withinF x.ship 0 (b.ships.length - 1) && isSpanW x.aw.lo x.aw.hi 0 120 6 && withinF x.m (b.ships.getD x.ship.toNat zShip).m 200
def checkW (b : Book) : Int := if okShipsW b && b.sights.all (okSightW b) then 0 else 40
theorem Check_calls (sv gv : Value) (b : Book) (w : World) (hb : BookAt w sv gv b) : Calls Tryd.prog 45 #[bookV sv gv b] w fun e w' => e = .returned (iv (checkW b)) ∧ Below w.heap.size w w' := by
  refine calls_of_WP (cx := cx0 w (vn [sv, gv]) 2) (n := vn [sv, gv]) (vs := [.g (bookA b)]) (hp := hpB b) (nx := 2) tt_ok Tryd.func45 rfl rfl rfl (by kernel_rfl) (HSat_book hb) (by simp [AV.ok, cellsOk, AC.ok, bookA]) ?_
  refine WP_seq (WP_region (WPO_all tt_ok (by kernel_rfl) ?_))
  refine WP_seq (WP_region (WPO_run tt_ok 7 (by kernel_rfl) ?_))
  refine CALL 87 [.g [ai b.hear.lo, ai b.hear.hi], .s (ai 1), .s (ai 120), .s (ai 10)] (.s (.bool (isSpanW b.hear.lo b.hear.hi 1 120 10))) [(decide ((b.ships.length : Int) ≤ 4), true)] (by kernel_rfl) (goes_of (by kernel_rfl)) (by kernel_rfl) (by kernel_rfl) (fun _ _ w _ => isSpan_calls _ _ _ _ _ w) ?_
  refine WPO_all tt_ok (by kernel_rfl) ?_
  refine WP_seq (WP_region (WPO_run tt_ok 4 (by kernel_rfl) ?_))
  refine CALL 88 [.s (ai b.br), .s (ai 0), .s (ai 10)] (.s (.bool (withinF b.br 0 10))) [(okHeadW b, true)] (by kernel_rfl) (goes_of (by kernel_rfl)) (by kernel_rfl) (by kernel_rfl) (fun _ _ w _ => within_calls _ _ _ w) ?_
  refine WPO_run tt_ok 4 (by kernel_rfl) ?_
  refine CALL 88 [.s (ai b.cr), .s (ai 1), .s (ai 20)] (.s (.bool (withinF b.cr 1 20))) [(okHeadW b && withinF b.br 0 10, true)] (by kernel_rfl) (goes_of (by kernel_rfl)) (by kernel_rfl) (by kernel_rfl) (fun _ _ w _ => within_calls _ _ _ w) ?_
  refine WPO_run tt_ok 4 (by kernel_rfl) ?_
  refine CALL 88 [.s (ai b.sl), .s (ai 0), .s (ai 15)] (.s (.bool (withinF b.sl 0 15))) [(okHeadW b && withinF b.br 0 10 && withinF b.cr 1 20, true)] (by kernel_rfl) (goes_of (by kernel_rfl)) (by kernel_rfl) (by kernel_rfl) (fun _ _ w _ => within_calls _ _ _ w) ?_
  refine WPO_all tt_ok (by kernel_rfl) ?_
  refine WP_seq (WP_seq (WP_region (WPO_all tt_ok (by kernel_rfl) ?_)))
  refine WP_block (WP_loop (σ := Int × Bool) (fun x => ⟨96, [(3, [], .s (.bool x.2)), (42, [], .s (ai x.1)), (1, [], .s (.p 2 0)), (40, [], .s (.ref 0)), (41, [], .s (ai b.ships.length))], (2, .box 27 (bookA b)) :: hpB b, 3, []⟩)
    (fun x => ∃ k : Nat, k ≤ b.ships.length ∧ x.1 = k ∧ x.2 = (okMidW b && (b.ships.take k).all okShipW)) (fun x => b.ships.length - x.1.toNat) (0, okMidW b) ⟨0, by omega, rfl, by simp⟩ (Le_sel (ts := [3, 42, 1, 40, 41]) (ids := [2, 0, 1]) (nx := 3) (by kernel_rfl)) ?_)
  rintro ⟨i, ok⟩ ⟨k, hk, hi, hok⟩
  simp only at hi hok
  subst hi
  refine WP_seq (WP_region (WPO_all tt_ok (by kernel_rfl) ?_))
  refine WP_seq (WP_cond (decide ((k : Int) < b.ships.length)) (by kernel_rfl) (fun h => WP_skip ?_) (fun h => WP_exit ?_))
  · have h := of_decide_eq_true h
    refine WP_seq (WP_block ?_)
    refine WP_seq (WP_region ?_)
    refine IX tt_ok k b.ships.length [] (by kernel_rfl) (fun _ => ⟨by omega, h⟩) ?_
    refine WPO_all tt_ok (by kernel_rfl) ?_
    refine WP_region ?_
    refine WPO_run tt_ok 4 (by kernel_rfl) ?_
    refine CALL 78 [.s (ai (b.ships.getD k zShip).m)] (.s (.bool (withinF (b.ships.getD k zShip).m 0 60))) [(ok, true)] (by kernel_rfl) (goes_of (by kernel_rfl)) (by kernel_rfl) (by kernel_rfl) (fun _ _ w _ => isBegin_calls _ w) ?_
    refine WPO_run tt_ok 4 (by kernel_rfl) ?_
    refine CALL 87 [.g [ai (b.ships.getD k zShip).aw.lo, ai (b.ships.getD k zShip).aw.hi], .s (ai 1), .s (ai 120), .s (ai 6)] (.s (.bool (isSpanW (b.ships.getD k zShip).aw.lo (b.ships.getD k zShip).aw.hi 1 120 6))) [(ok && withinF (b.ships.getD k zShip).m 0 60, true)] (by kernel_rfl) (goes_of (by kernel_rfl)) (by kernel_rfl) (by kernel_rfl) (fun _ _ w _ => isSpan_calls _ _ _ _ _ w) ?_
    refine WPO_run tt_ok 4 (by kernel_rfl) ?_
    refine CALL 87 [.g [ai (b.ships.getD k zShip).sp.lo, ai (b.ships.getD k zShip).sp.hi], .s (ai 1), .s (ai 12), .s (ai 2)] (.s (.bool (isSpanW (b.ships.getD k zShip).sp.lo (b.ships.getD k zShip).sp.hi 1 12 2))) [(ok && withinF (b.ships.getD k zShip).m 0 60 && isSpanW (b.ships.getD k zShip).aw.lo (b.ships.getD k zShip).aw.hi 1 120 6, true)] (by kernel_rfl) (goes_of (by kernel_rfl)) (by kernel_rfl) (by kernel_rfl) (fun _ _ w _ => isSpan_calls _ _ _ _ _ w) ?_
    refine WPO_all tt_ok (by kernel_rfl) ?_
    refine WP_region (WPO_all tt_ok (by kernel_rfl) ?_)
    refine ⟨(wr (k + 1), ok && withinF (b.ships.getD k zShip).m 0 60 && isSpanW (b.ships.getD k zShip).aw.lo (b.ships.getD k zShip).aw.hi 1 120 6 && isSpanW (b.ships.getD k zShip).sp.lo (b.ships.getD k zShip).sp.hi 1 12 2), ?_, ?_, Le_sel (ts := [3, 42, 1, 40, 41]) (ids := [2, 0, 1]) (nx := 3) (by kernel_rfl)⟩
    · have hl := Reads.len hb.ships
      refine ⟨k + 1, by omega, by simp only; rw [wr_id (by omega) (by omega)]; rfl, ?_⟩
      simp only
      rw [hok, List.take_succ_eq_append_getElem (by omega)]
      simp only [List.all_append, List.all_cons, List.all_nil, okShipW, Bool.and_true, Bool.and_assoc, List.getD_eq_getElem?_getD, List.getElem?_eq_getElem (show k < b.ships.length by omega), Option.getD_some]
    · have hl := Reads.len hb.ships
      simp only
      rw [wr_id (by omega) (by omega)]
      omega
  · have h := of_decide_eq_false h
    obtain rfl : k = b.ships.length := by omega
    rw [List.take_length] at hok
    refine WP_seq (WP_seq (WP_region (WPO_all tt_ok (by kernel_rfl) ?_)))
    refine WP_block (WP_loop (σ := Int × Bool) (fun x => ⟨96, [(3, [], .s (.bool x.2)), (66, [], .s (ai x.1)), (1, [], .s (.p 2 0)), (64, [], .s (.ref 1)), (65, [], .s (ai b.sights.length))], (2, .box 27 (bookA b)) :: hpB b, 3, []⟩)
      (fun x => ∃ k : Nat, k ≤ b.sights.length ∧ x.1 = k ∧ x.2 = (okShipsW b && (b.sights.take k).all (okSightW b))) (fun x => b.sights.length - x.1.toNat) (0, ok) ⟨0, by omega, rfl, by rw [hok]; simp [okShipsW]⟩ (Le_sel (ts := [3, 66, 1, 64, 65]) (ids := [2, 0, 1]) (nx := 3) (by kernel_rfl)) ?_)
    clear hok hk h
    rintro ⟨i, ok⟩ ⟨k, hk, hi, hok⟩
    simp only at hi hok
    subst hi
    refine WP_seq (WP_region (WPO_all tt_ok (by kernel_rfl) ?_))
    refine WP_seq (WP_cond (decide ((k : Int) < b.sights.length)) (by kernel_rfl) (fun h => WP_skip ?_) (fun h => WP_exit ?_))
    · have h := of_decide_eq_true h
      refine WP_seq (WP_block ?_)
      refine WP_seq (WP_region ?_)
      refine IX tt_ok k b.sights.length [] (by kernel_rfl) (fun _ => ⟨by omega, h⟩) ?_
      refine WPO_all tt_ok (by kernel_rfl) ?_
      refine WP_seq (WP_region ?_)
      refine WPO_run tt_ok 5 (by kernel_rfl) ?_
      refine CALL 84 [.g (bookA b), .s (ai (b.sights.getD k zSight).ship)] (.s (.bool (withinF (b.sights.getD k zSight).ship 0 (b.ships.length - 1)))) [(ok, true)] (by kernel_rfl) (goes_of (by kernel_rfl)) (by kernel_rfl) (by kernel_rfl) (fun _ n w h => ?_) ?_
      · exact isShip_calls (n 0) (n 1) b _ w (HSat_toBook h (by kernel_rfl) (by kernel_rfl))
      refine WPO_run tt_ok 4 (by kernel_rfl) ?_
      refine CALL 87 [.g [ai (b.sights.getD k zSight).aw.lo, ai (b.sights.getD k zSight).aw.hi], .s (ai 0), .s (ai 120), .s (ai 6)] (.s (.bool (isSpanW (b.sights.getD k zSight).aw.lo (b.sights.getD k zSight).aw.hi 0 120 6))) [(ok && withinF (b.sights.getD k zSight).ship 0 (b.ships.length - 1), true)] (by kernel_rfl) (goes_of (by kernel_rfl)) (by kernel_rfl) (by kernel_rfl) (fun _ _ w _ => isSpan_calls _ _ _ _ _ w) ?_
      refine WPO_all tt_ok (by kernel_rfl) ?_
      refine WP_seq (WP_region (WPO_all tt_ok (by kernel_rfl) ?_))
      refine WP_cond (ok && withinF (b.sights.getD k zSight).ship 0 (b.ships.length - 1) && isSpanW (b.sights.getD k zSight).aw.lo (b.sights.getD k zSight).aw.hi 0 120 6) (by kernel_rfl) (fun hc => ?_) (fun hc => WP_skip ?_)
      · have hsh : 0 ≤ (b.sights.getD k zSight).ship ∧ (b.sights.getD k zSight).ship < (b.ships.length : Int) := by
          simp only [Bool.and_eq_true, withinF, decide_eq_true_eq] at hc
          omega
        refine WP_draw (by kernel_rfl) (by kernel_rfl) ?_
        refine WPQ_run tt_ok 6 (by kernel_rfl) ?_
        refine QIX tt_ok (b.sights.getD k zSight).ship b.ships.length [] (by kernel_rfl) (fun _ => hsh) ?_
        refine WPQ_run tt_ok 2 (by kernel_rfl) ?_
        refine QCALL 88 [.s (ai (b.sights.getD k zSight).m), .s (ai (b.ships.getD (b.sights.getD k zSight).ship.toNat zShip).m), .s (ai 200)] (.s (.bool (withinF (b.sights.getD k zSight).m (b.ships.getD (b.sights.getD k zSight).ship.toNat zShip).m 200))) [] (by kernel_rfl) (goes_of (by kernel_rfl)) (by kernel_rfl) (by kernel_rfl) (fun _ _ w _ => within_calls _ _ _ w) ?_
        refine WPQ_all tt_ok (by kernel_rfl) ?_
        refine WP_region (WPO_all tt_ok (by kernel_rfl) ?_)
        refine ⟨(wr (k + 1), withinF (b.sights.getD k zSight).m (b.ships.getD (b.sights.getD k zSight).ship.toNat zShip).m 200), ?_, ?_, Le_sel (ts := [3, 66, 1, 64, 65]) (ids := [2, 0, 1]) (nx := 3) (by kernel_rfl)⟩
        · have hl := Reads.len hb.sights
          refine ⟨k + 1, by omega, by simp only; rw [wr_id (by omega) (by omega)]; rfl, ?_⟩
          simp only [Bool.and_eq_true] at hc
          rw [List.take_succ_eq_append_getElem (by omega), List.all_append, ← Bool.and_assoc, ← hok, hc.1.1]
          simp only [List.all_cons, List.all_nil, okSightW, Bool.and_true, Bool.true_and]
          have hx : b.sights.getD k zSight = b.sights[k]'(by omega) := by simp [List.getD_eq_getElem?_getD, List.getElem?_eq_getElem (show k < b.sights.length by omega)]
          rw [← hx, hc.1.2, hc.2]
          rfl
        · have hl := Reads.len hb.sights
          simp only
          rw [wr_id (by omega) (by omega)]
          omega
      · refine WP_region (WPO_all tt_ok (by kernel_rfl) ?_)
        refine ⟨(wr (k + 1), ok && withinF (b.sights.getD k zSight).ship 0 (b.ships.length - 1) && isSpanW (b.sights.getD k zSight).aw.lo (b.sights.getD k zSight).aw.hi 0 120 6), ?_, ?_, Le_sel (ts := [3, 66, 1, 64, 65]) (ids := [2, 0, 1]) (nx := 3) (by kernel_rfl)⟩
        · have hl := Reads.len hb.sights
          refine ⟨k + 1, by omega, by simp only; rw [wr_id (by omega) (by omega)]; rfl, ?_⟩
          rw [List.take_succ_eq_append_getElem (by omega), List.all_append, ← Bool.and_assoc, ← hok]
          simp only [List.all_cons, List.all_nil, okSightW, Bool.and_true]
          have hx : b.sights.getD k zSight = b.sights[k]'(by omega) := by simp [List.getD_eq_getElem?_getD, List.getElem?_eq_getElem (show k < b.sights.length by omega)]
          rw [← hx, ← Bool.and_assoc, ← Bool.and_assoc, hc]
          rfl
        · have hl := Reads.len hb.sights
          simp only
          rw [wr_id (by omega) (by omega)]
          omega
    · have h := of_decide_eq_false h
      obtain rfl : k = b.sights.length := by omega
      rw [List.take_length] at hok
      refine WP_seq (WP_seq (WP_region (WPO_all tt_ok (by kernel_rfl) ?_)))
      refine WP_cond (!ok) (by kernel_rfl) (fun hc => ?_) (fun hc => WP_skip ?_)
      · refine WP_seq (WP_region (WPO_all tt_ok (by kernel_rfl) ?_))
        refine WP_ret ?_
        exact ⟨.s (ai 40), by kernel_rfl, fun n w' h => ⟨by unfold checkW; rw [← hok]; simp only [Bool.not_eq_true'] at hc; rw [hc]; rfl, h.bel⟩⟩
      · refine WP_seq (WP_region (WPO_all tt_ok (by kernel_rfl) ?_))
        refine WP_ret ?_
        exact ⟨.s (ai 0), by kernel_rfl, fun n w' h => ⟨by unfold checkW; rw [← hok]; simp only [Bool.not_eq_false'] at hc; rw [hc]; rfl, h.bel⟩⟩
end Go.Proofs.YtamimgmoomcipaaDoor.Fw
namespace Go.Proofs.YtamimgmoomcipaaDoor.Fw
open Go Go.RowKit Go.Proofs.YtamimgmoomcipaaDoor.Eng
set_option linter.unusedVariables false
set_option linter.unusedSimpArgs false
def encI (x : Int) : List Value := [iv x]
def encBl (x : Bool) : List Value := [.bool x]
def idxI : List Int → Int → Int
  | [], _ => -1
  | y :: r, x => if x = y then 0 else (let i := idxI r x; if i < 0 then i else i + 1)
theorem idxI_none {l : List Int} {x : Int} (h : ∀ j, (hj : j < l.length) → x ≠ l[j]) : idxI l x = -1 := by
  induction l with
  | nil => rfl
  | cons y r ih =>
    have h0 := h 0 (by simp)
    simp only [List.getElem_cons_zero] at h0
    have := ih fun j hj => by have := h (j + 1) (by simpa using hj); simpa using this
    simp [idxI, h0, this]
theorem idxI_some {l : List Int} {x : Int} {k : Nat} (hk : k < l.length) (h : ∀ j, (hj : j < k) → x ≠ l[j]'(by omega)) (he : x = l[k]) : idxI l x = k := by
  induction l generalizing k with
  | nil => simp at hk
  | cons y r ih =>
    cases k with
    | zero => simp at he; simp [idxI, he]
    | succ k =>
      have h0 := h 0 (by omega)
      simp only [List.getElem_cons_zero] at h0
      have := ih (k := k) (by simpa using hk) (fun j hj => by have := h (j + 1) (by omega); simpa using this) (by simpa using he)
      simp only [idxI, h0, if_false, this]
      rw [if_neg (by omega)]
      simp
theorem idxI_nonneg {l : List Int} {x : Int} : (0 ≤ idxI l x) ↔ x ∈ l := by
  induction l with
  | nil => simp [idxI]
  | cons y r ih =>
    simp only [idxI, List.mem_cons]
    by_cases h : x = y
    · simp [h]
    · simp only [h, if_false, false_or, ← ih]
      by_cases h2 : idxI r x < 0
      · simp only [h2, if_true]
      · simp only [h2, if_false]; omega
theorem indexI_calls (v : Value) (l : List Int) (x : Int) (w : World) (hr : Reads w v 1 l encI 0) : Calls Tryd.prog 122 #[v, iv x] w fun e w' => e = .returned (iv (idxI l x)) ∧ Below w.heap.size w w' := by
  refine calls_of_WP (cx := cx0 w (vn [v]) 1) (n := vn [v]) (vs := [.s (.ref 0), .s (.int .i64 x)]) (hp := [(0, .sl .ro 3 1 l encI 0)]) (nx := 1) tt_ok Tryd.func122 rfl rfl rfl (by kernel_rfl) (HSat_args (vn_one (by simp [hr.one])) (Nat.le_refl _) ⟨⟨⟨fun _ => rfl, by decide, hr⟩, (Nat.le_of_ble_eq_true rfl)⟩, trivial⟩) (by simp [AV.ok, cellsOk, AC.ok, bookA]) ?_
  refine WP_seq (WP_region (WPO_all tt_ok (by kernel_rfl) ?_))
  refine WP_seq (WP_seq (WP_region (WPO_all tt_ok (by kernel_rfl) ?_)))
  refine WP_block (WP_loop (σ := Int) (fun zz => ⟨19, [(8, [], .s (.int .i64 zz)), (7, [], .s (.int .i64 (l.length : Int))), (4, [], .s (.int .i64 0)), (0, [], .s (.ref 0)), (1, [], .s (.int .i64 x))], [(0, .sl .ro 3 1 l encI 0)], 1, []⟩) (fun zz => ∃ k : Nat, k ≤ l.length ∧ zz = k ∧ ∀ j, (hj : j < l.length) → j < k → x ≠ l[j]) (fun zz => l.length - zz.toNat) 0 (⟨0, by omega, rfl, fun j _ h => by omega⟩) (Le_sel (ts := [8, 7, 4, 0, 1]) (ids := [0]) (nx := 1) (by kernel_rfl)) ?_)
  rintro i hinv
  obtain ⟨k, hk, hi, hno⟩ := hinv
  subst hi
  have hl := Reads.len hr
  refine WP_seq (WP_region (WPO_all tt_ok (by kernel_rfl) ?_))
  refine WP_seq (WP_cond (decide ((k : Int) < (l.length : Int))) (by kernel_rfl) (fun hc1 => ?_) (fun hc1 => ?_))
  · have hc1 := of_decide_eq_true hc1
    refine WP_skip ?_
    refine WP_seq (WP_block ?_)
    refine WP_seq (WP_region (WPO_all tt_ok (by kernel_rfl) ?_))
    refine WP_seq (WP_region (WPO_run tt_ok 3 (by kernel_rfl) ?_))
    refine IX tt_ok (k : Int) l.length [] (by kernel_rfl) (fun _ => ⟨by omega, by omega⟩) ?_
    refine WPO_all tt_ok (by kernel_rfl) ?_
    refine WP_cond (x == (l.getD k 0)) (by kernel_rfl) (fun hc2 => ?_) (fun hc2 => ?_)
    · refine WP_seq (WP_region (WPO_all tt_ok (by kernel_rfl) ?_))
      refine WP_ret ?_
      exact ⟨.s (ai k), by kernel_rfl, fun n w' h => ⟨by rw [idxI_some (k := k) (by omega) (fun j hj => hno j (by omega) hj) (by simpa [List.getD_eq_getElem?_getD, List.getElem?_eq_getElem (show k < l.length by omega)] using hc2)]; rfl, h.bel⟩⟩
    refine WP_skip ?_
    refine WP_region (WPO_all tt_ok (by kernel_rfl) ?_)
    refine ⟨IntKind.i64.wrap ((k : Int) + 1), ?_, ?_, Le_sel (ts := [8, 7, 4, 0, 1]) (ids := [0]) (nx := 1) (by kernel_rfl)⟩
    · refine ⟨k + 1, by omega, by rw [wrapI (by omega) (by omega)]; rfl, fun j hj hjk => ?_⟩
      by_cases e : j = k
      · subst e; simpa [List.getD_eq_getElem?_getD, List.getElem?_eq_getElem hj] using hc2
      · exact hno j hj (by omega)
    · rw [wrapI (by omega) (by omega)]
      omega
  have hc1 := of_decide_eq_false hc1
  refine WP_exit ?_
  obtain rfl : k = l.length := by omega
  refine WP_seq (WP_region (WPO_all tt_ok (by kernel_rfl) ?_))
  refine WP_ret ?_
  exact ⟨.s (ai (-1)), by kernel_rfl, fun n w' h => ⟨by rw [idxI_none fun j hj => hno j hj hj]; rfl, h.bel⟩⟩
theorem containsI_calls (v : Value) (l : List Int) (x : Int) (w : World) (hr : Reads w v 1 l encI 0) : Calls Tryd.prog 120 #[v, iv x] w fun e w' => e = .returned (.bool (decide (x ∈ l))) ∧ Below w.heap.size w w' := by
  refine calls_of_WP (cx := cx0 w (vn [v]) 1) (n := vn [v]) (vs := [.s (.ref 0), .s (.int .i64 x)]) (hp := [(0, .sl .ro 3 1 l encI 0)]) (nx := 1) tt_ok Tryd.func120 rfl rfl rfl (by kernel_rfl) (HSat_args (vn_one (by simp [hr.one])) (Nat.le_refl _) ⟨⟨⟨fun _ => rfl, by decide, hr⟩, (Nat.le_of_ble_eq_true rfl)⟩, trivial⟩) (by simp [AV.ok, cellsOk, AC.ok, bookA]) ?_
  refine WP_seq (WP_region (WPO_all tt_ok (by kernel_rfl) ?_))
  refine WP_seq (WP_region (WPO_run tt_ok 2 (by kernel_rfl) ?_))
  refine CALL 122 [.s (.ref 0), .s (.int .i64 x)] (.s (.int .i64 (idxI l x))) [] (by kernel_rfl) (goes_of (by kernel_rfl)) (by kernel_rfl) (by kernel_rfl) (fun _ n w h => indexI_calls (n 0) _ _ w (h.reads (id := 0) (kd := .ro) (e := 3) (by kernel_rfl))) ?_
  refine WPO_all tt_ok (by kernel_rfl) ?_
  refine WP_ret ?_
  exact ⟨.s (.bool (decide ((idxI l x) ≥ 0))), by kernel_rfl, fun n w' h => ⟨by simp only [AV.c, AC.c, ge_iff_le, idxI_nonneg], h.bel⟩⟩
end Go.Proofs.YtamimgmoomcipaaDoor.Fw
namespace Go.Proofs.YtamimgmoomcipaaDoor.Fw
open Go Go.RowKit Go.Proofs.YtamimgmoomcipaaDoor.Eng
set_option linter.unusedVariables false
set_option linter.unusedSimpArgs false
structure Valid (b : Book) : Prop where
  nships : b.ships.length ≤ 4
  hear : 1 ≤ b.hear.lo ∧ b.hear.lo ≤ b.hear.hi ∧ b.hear.hi ≤ 120 ∧ b.hear.hi - b.hear.lo ≤ 10
  nsights : b.sights.length ≤ 5
  br : 0 ≤ b.br ∧ b.br ≤ 10
  cr : 1 ≤ b.cr ∧ b.cr ≤ 20
  sl : 0 ≤ b.sl ∧ b.sl ≤ 15
  ships : ∀ x ∈ b.ships, (0 ≤ x.m ∧ x.m ≤ 60) ∧ (1 ≤ x.aw.lo ∧ x.aw.lo ≤ x.aw.hi ∧ x.aw.hi ≤ 120 ∧ x.aw.hi - x.aw.lo ≤ 6) ∧ (1 ≤ x.sp.lo ∧ x.sp.lo ≤ x.sp.hi ∧ x.sp.hi ≤ 12 ∧ x.sp.hi - x.sp.lo ≤ 2)
  sights : ∀ x ∈ b.sights, (0 ≤ x.ship ∧ x.ship < b.ships.length) ∧ (0 ≤ x.aw.lo ∧ x.aw.lo ≤ x.aw.hi ∧ x.aw.hi ≤ 120 ∧ x.aw.hi - x.aw.lo ≤ 6) ∧ (b.ships.getD x.ship.toNat zShip).m ≤ x.m ∧ x.m ≤ 200
theorem getD_mem {α : Type} {l : List α} {k : Nat} {z : α} (h : k < l.length) : l.getD k z ∈ l := by
  rw [List.getD_eq_getElem?_getD, List.getElem?_eq_getElem h]
  exact List.getElem_mem h
theorem Valid.ship {b : Book} (h : Valid b) {k : Nat} (hk : k < b.ships.length) : (0 ≤ (b.ships.getD k zShip).m ∧ (b.ships.getD k zShip).m ≤ 60) ∧ (1 ≤ (b.ships.getD k zShip).aw.lo ∧ (b.ships.getD k zShip).aw.lo ≤ (b.ships.getD k zShip).aw.hi ∧ (b.ships.getD k zShip).aw.hi ≤ 120 ∧ (b.ships.getD k zShip).aw.hi - (b.ships.getD k zShip).aw.lo ≤ 6) ∧ (1 ≤ (b.ships.getD k zShip).sp.lo ∧ (b.ships.getD k zShip).sp.lo ≤ (b.ships.getD k zShip).sp.hi ∧ (b.ships.getD k zShip).sp.hi ≤ 12 ∧ (b.ships.getD k zShip).sp.hi - (b.ships.getD k zShip).sp.lo ≤ 2) := h.ships _ (getD_mem hk)
theorem isSpanW_iff {lo hi low high wide : Int} (h0 : 0 ≤ low) (h1 : high ≤ 1000) : isSpanW lo hi low high wide = true ↔ low ≤ lo ∧ lo ≤ hi ∧ hi ≤ high ∧ hi - lo ≤ wide := by
  simp only [isSpanW, Bool.and_eq_true, decide_eq_true_eq, and_assoc]
  constructor
  · rintro ⟨a, b, c, d⟩
    rw [wr_id (by omega) (by omega)] at d
    exact ⟨a, b, c, d⟩
  · rintro ⟨a, b, c, d⟩
    rw [wr_id (by omega) (by omega)]
    exact ⟨a, b, c, d⟩
theorem okShipsW_iff {b : Book} : (okShipsW b && b.sights.all (okSightW b)) = true ↔ Valid b := by
  simp only [okShipsW, okMidW, okHeadW, okShipW, okSightW, withinF, Bool.and_eq_true, decide_eq_true_eq, List.all_eq_true, isSpanW_iff (show (0 : Int) ≤ 1 by decide) (show (120 : Int) ≤ 1000 by decide), isSpanW_iff (show (0 : Int) ≤ 1 by decide) (show (12 : Int) ≤ 1000 by decide), isSpanW_iff (show (0 : Int) ≤ 0 by decide) (show (120 : Int) ≤ 1000 by decide)]
  constructor
  · rintro ⟨⟨⟨⟨⟨⟨⟨h1, h2⟩, h3⟩, h4⟩, h5⟩, h6⟩, h7⟩, h8⟩
    refine ⟨by omega, h2, by omega, h4, h5, h6, fun x hx => ?_, fun x hx => ?_⟩
    · obtain ⟨⟨a, c⟩, d⟩ := h7 x hx; exact ⟨a, c, d⟩
    · obtain ⟨⟨a, c⟩, d⟩ := h8 x hx; exact ⟨⟨a.1, by omega⟩, c, d⟩
  · intro h
    refine ⟨⟨⟨⟨⟨⟨⟨by have := h.nships; omega, h.hear⟩, by have := h.nsights; omega⟩, h.br⟩, h.cr⟩, h.sl⟩, fun x hx => ?_⟩, fun x hx => ?_⟩
    · obtain ⟨a, c, d⟩ := h.ships x hx; exact ⟨⟨a, c⟩, d⟩
    · obtain ⟨a, c, d⟩ := h.sights x hx; exact ⟨⟨⟨a.1, by omega⟩, c⟩, d⟩
theorem check_valid {b : Book} : checkW b = 0 ↔ Valid b := by
  unfold checkW
  by_cases h : (okShipsW b && b.sights.all (okSightW b)) = true
  · simp [h, okShipsW_iff.1 h]
  · rw [if_neg h]
    exact ⟨fun h => absurd h (by decide), fun hv => absurd (okShipsW_iff.2 hv) h⟩
theorem check_two (b : Book) : checkW b = 0 ∨ checkW b = 40 := by unfold checkW; split <;> simp
def awayF (b : Book) (k : Nat) (a s m : Int) : Int := max (a - s * (m - (b.ships.getD k zShip).m)) (-(a - s * (m - (b.ships.getD k zShip).m)))
def bookC (b : Book) : List AC := [.ref 0, ai b.hear.lo, ai b.hear.hi, ai b.br, ai b.cr, ai b.sl, .ref 1, .ref 2]
def bookV2 (sv gv cv : Value) (b : Book) : Value := .agg #[sv, iv b.hear.lo, iv b.hear.hi, iv b.br, iv b.cr, iv b.sl, gv, cv]
theorem HSat_bookC {w : World} {sv gv cv : Value} {b : Book} (h : BookAt w sv gv b) (hc : cv.oneCell' = true) {nt : Nat} {e : List (Nat × List (Nat × Bool) × AV)} : HSat (cx0 w (vn [sv, gv, cv]) 3) (vn [sv, gv, cv]) ⟨nt, e, hpB b, 3, []⟩ w :=
  HSat_args (vn_one (by simp [h.ships.one, h.sights.one, hc])) (Nat.le_refl _) ⟨⟨⟨fun _ => rfl, by decide, h.ships⟩, (Nat.le_of_ble_eq_true rfl)⟩, ⟨⟨fun _ => rfl, by decide, h.sights⟩, (Nat.le_of_ble_eq_true rfl)⟩, trivial⟩
theorem mul_small {s d : Int} (hs : 0 ≤ s ∧ s ≤ 1000) (hd : -1000 ≤ d ∧ d ≤ 1000) : -1000000 ≤ s * d ∧ s * d ≤ 1000000 := by
  obtain ⟨h1, h2⟩ := hs
  obtain ⟨h3, h4⟩ := hd
  constructor
  · have : s * (-1000) ≤ s * d := Int.mul_le_mul_of_nonneg_left h3 h1
    omega
  · have : s * d ≤ s * 1000 := Int.mul_le_mul_of_nonneg_left h4 h1
    omega
theorem away_calls (sv gv cv : Value) (b : Book) (k : Nat) (a s m : Int) (w : World) (hb : BookAt w sv gv b) (hc : cv.oneCell' = true) (hk : k < b.ships.length) (hv : Valid b) (ha : 0 ≤ a ∧ a ≤ 1000) (hs : 0 ≤ s ∧ s ≤ 1000) (hm : 0 ≤ m ∧ m ≤ 900) :
    Calls Tryd.prog 117 #[bookV2 sv gv cv b, iv k, .agg #[iv a, iv s], iv m] w fun e w' => e = .returned (iv (awayF b k a s m)) ∧ Below w.heap.size w w' := by
  refine calls_of_WP (cx := cx0 w (vn [sv, gv, cv]) 3) (n := vn [sv, gv, cv]) (vs := [.g (bookC b), .s (.int .i64 (k : Int)), .g [.int .i64 a, .int .i64 s], .s (.int .i64 m)]) (hp := hpB b) (nx := 3) tt_ok Tryd.func117 rfl rfl rfl (by kernel_rfl) (HSat_bookC hb hc) (by simp [AV.ok, cellsOk, AC.ok, bookC]) ?_
  have hs1 := (hv.ship hk).1
  have hmul := mul_small hs (d := m - (b.ships.getD k zShip).m) (by omega)
  have this : mx (IntKind.i64.wrap (a - IntKind.i64.wrap (s * IntKind.i64.wrap (m - (b.ships.getD k zShip).m)))) (IntKind.i64.wrap (0 - IntKind.i64.wrap (a - IntKind.i64.wrap (s * IntKind.i64.wrap (m - (b.ships.getD k zShip).m))))) = awayF b k a s m := by
    rw [wrapI (x := m - (b.ships.getD k zShip).m) (by omega) (by omega), wrapI (x := s * (m - (b.ships.getD k zShip).m)) (by omega) (by omega), wrapI (x := a - s * (m - (b.ships.getD k zShip).m)) (by omega) (by omega), wrapI (by omega) (by omega)]
    unfold mx awayF
    split <;> omega
  refine WP_seq (WP_region (WPO_all tt_ok (by kernel_rfl) ?_))
  refine WP_seq (WP_draw (by kernel_rfl) (by kernel_rfl) ?_)
  refine WPQ_run tt_ok 9 (by kernel_rfl) ?_
  refine QIX tt_ok (k : Int) b.ships.length [] (by kernel_rfl) (fun _ => ⟨by omega, by omega⟩) ?_
  refine WPQ_all tt_ok (by kernel_rfl) ?_
  refine WP_seq (WP_region (WPO_all tt_ok (by kernel_rfl) ?_))
  refine WP_ret ?_
  exact ⟨.s (.int .i64 (mx (IntKind.i64.wrap (a - (IntKind.i64.wrap (s * (IntKind.i64.wrap (m - ((b.ships.getD k zShip).m))))))) (IntKind.i64.wrap (0 - (IntKind.i64.wrap (a - (IntKind.i64.wrap (s * (IntKind.i64.wrap (m - ((b.ships.getD k zShip).m))))))))))), by kernel_rfl, fun n w' h => ⟨by rw [this]; rfl, h.bel⟩⟩
end Go.Proofs.YtamimgmoomcipaaDoor.Fw
namespace Go.Proofs.YtamimgmoomcipaaDoor.Fw
open Go Go.RowKit Go.Proofs.YtamimgmoomcipaaDoor.Eng
set_option linter.unusedVariables false
set_option linter.unusedSimpArgs false
theorem Valid.sight {b : Book} (h : Valid b) {j : Nat} (hj : j < b.sights.length) : (0 ≤ (b.sights.getD j zSight).ship ∧ (b.sights.getD j zSight).ship < b.ships.length) ∧ (0 ≤ (b.sights.getD j zSight).aw.lo ∧ (b.sights.getD j zSight).aw.lo ≤ (b.sights.getD j zSight).aw.hi ∧ (b.sights.getD j zSight).aw.hi ≤ 120 ∧ (b.sights.getD j zSight).aw.hi - (b.sights.getD j zSight).aw.lo ≤ 6) ∧ 0 ≤ (b.sights.getD j zSight).m ∧ (b.sights.getD j zSight).m ≤ 200 := by
  obtain ⟨h1, h2, h3, h4⟩ := h.sights _ (getD_mem (z := zSight) hj)
  have := (h.ship (k := (b.sights.getD j zSight).ship.toNat) (by omega)).1
  exact ⟨h1, h2, by omega, h4⟩
def sightF (b : Book) (k : Nat) (a s : Int) (but : List Int) (j : Nat) : Bool := !((b.sights.getD j zSight).ship == (k : Int) && !decide ((j : Int) ∈ but) && !withinF (awayF b k a s (b.sights.getD j zSight).m) (b.sights.getD j zSight).aw.lo (b.sights.getD j zSight).aw.hi)
def rightF (b : Book) (k : Nat) (a s : Int) (but : List Int) : Bool := (List.range b.sights.length).all (sightF b k a s but)
theorem HSat_bookB {w : World} {sv gv cv bv : Value} {b : Book} {but : List Int} (h : BookAt w sv gv b) (hc : cv.oneCell' = true) (hbut : Reads w bv 1 but encI 0) {nt : Nat} {e : List (Nat × List (Nat × Bool) × AV)} : HSat (cx0 w (vn [sv, gv, cv, bv]) 4) (vn [sv, gv, cv, bv]) ⟨nt, e, hpB b ++ [(3, .sl .ro 3 1 but encI 0)], 4, []⟩ w :=
  HSat_args (vn_one (by simp [h.ships.one, h.sights.one, hc, hbut.one])) (Nat.le_refl _) ⟨⟨⟨fun _ => rfl, by decide, h.ships⟩, (Nat.le_of_ble_eq_true rfl)⟩, ⟨⟨fun _ => rfl, by decide, h.sights⟩, (Nat.le_of_ble_eq_true rfl)⟩, ⟨⟨fun _ => rfl, by decide, hbut⟩, (Nat.le_of_ble_eq_true rfl)⟩, trivial⟩
theorem right_calls (sv gv cv bv : Value) (b : Book) (k : Nat) (a s : Int) (but : List Int) (w : World) (hb : BookAt w sv gv b) (hc : cv.oneCell' = true) (hbut : Reads w bv 1 but encI 0) (hk : k < b.ships.length) (hv : Valid b) (ha : 0 ≤ a ∧ a ≤ 1000) (hs : 0 ≤ s ∧ s ≤ 1000) :
    Calls Tryd.prog 114 #[bookV2 sv gv cv b, iv k, .agg #[iv a, iv s], bv] w fun e w' => e = .returned (.bool (rightF b k a s but)) ∧ Below w.heap.size w w' := by
  refine calls_of_WP (cx := cx0 w (vn [sv, gv, cv, bv]) 4) (n := vn [sv, gv, cv, bv]) (vs := [.g (bookC b), .s (.int .i64 (k : Int)), .g [.int .i64 a, .int .i64 s], .s (.ref 3)]) (hp := hpB b ++ [(3, .sl .ro 3 1 but encI 0)]) (nx := 4) tt_ok Tryd.func114 rfl rfl rfl (by kernel_rfl) (HSat_bookB hb hc hbut) (by simp [AV.ok, cellsOk, AC.ok, bookC]) ?_
  refine WP_seq (WP_region (WPO_all tt_ok (by kernel_rfl) ?_))
  refine WP_seq (WP_seq (WP_region (WPO_all tt_ok (by kernel_rfl) ?_)))
  refine WP_block (WP_loop (σ := Int) (fun zz => ⟨49, [(16, [], .s (.int .i64 zz)), (15, [], .s (.int .i64 (b.sights.length : Int))), (14, [], .s (.ref 1)), (8, [], .s (.bool false)), (6, [], .s (.p 5 0)), (4, [], .s (.p 4 0)), (1, [], .s (.int .i64 (k : Int))), (3, [], .s (.ref 3))], [(5, .box 102 [.int .i64 a, .int .i64 s]), (4, .box 94 [.ref 0, .int .i64 b.hear.lo, .int .i64 b.hear.hi, .int .i64 b.br, .int .i64 b.cr, .int .i64 b.sl, .ref 1, .ref 2]), (0, .sl .ro 65 5 b.ships encShip zShip), (1, .sl .ro 70 4 b.sights encSight zSight), (3, .sl .ro 3 1 but encI 0)], 6, []⟩) (fun zz => ∃ j : Nat, j ≤ b.sights.length ∧ zz = j ∧ ∀ q, q < j → sightF b k a s but q = true) (fun zz => b.sights.length - zz.toNat) 0 (⟨0, by omega, rfl, fun j h => by omega⟩) (Le_sel (ts := [16, 15, 14, 8, 6, 4, 1, 3]) (ids := [5, 4, 0, 1, 3]) (nx := 6) (by kernel_rfl)) ?_)
  rintro i hinv
  obtain ⟨j, hj, hi, hno⟩ := hinv
  subst hi
  have hl := hv.nsights
  refine WP_seq (WP_region (WPO_all tt_ok (by kernel_rfl) ?_))
  refine WP_seq (WP_cond (decide ((j : Int) < (b.sights.length : Int))) (by kernel_rfl) (fun hc1 => ?_) (fun hc1 => ?_))
  · have hc1 := of_decide_eq_true hc1
    have hsg := hv.sight (j := j) (by omega)
    refine WP_skip ?_
    refine WP_seq (WP_block ?_)
    refine WP_seq (WP_region (WPO_run tt_ok 1 (by kernel_rfl) ?_))
    refine IX tt_ok (j : Int) b.sights.length [] (by kernel_rfl) (fun _ => ⟨by omega, by omega⟩) ?_
    refine WPO_all tt_ok (by kernel_rfl) ?_
    refine WP_seq (WP_region (WPO_run tt_ok 5 (by kernel_rfl) ?_))
    refine CALL 117 [.g [.ref 0, .int .i64 b.hear.lo, .int .i64 b.hear.hi, .int .i64 b.br, .int .i64 b.cr, .int .i64 b.sl, .ref 1, .ref 2], .s (.int .i64 (k : Int)), .g [.int .i64 a, .int .i64 s], .s (.int .i64 ((b.sights.getD j zSight).m))] (.s (.int .i64 (awayF b k a s ((b.sights.getD j zSight).m)))) [] (by kernel_rfl) (goes_of (by kernel_rfl)) (by kernel_rfl) (by kernel_rfl) (fun _ n w h => away_calls (n 0) (n 1) (n 2) b _ _ _ _ w (HSat_toBook h (by kernel_rfl) (by kernel_rfl)) (h.one 2) hk hv (by omega) (by omega) (by omega)) ?_
    refine WPO_all tt_ok (by kernel_rfl) ?_
    refine WP_seq (WP_region (WPO_run tt_ok 7 (by kernel_rfl) ?_))
    refine CALL 120 [.s (.ref 3), .s (.int .i64 (j : Int))] (.s (.bool (decide ((j : Int) ∈ but)))) [(((b.sights.getD j zSight).ship) == (k : Int), true)] (by kernel_rfl) (goes_of (by kernel_rfl)) (by kernel_rfl) (by kernel_rfl) (fun _ n w h => containsI_calls (n 3) _ _ w (h.reads (id := 3) (kd := .ro) (e := 3) (by kernel_rfl))) ?_
    refine WPO_run tt_ok 10 (by kernel_rfl) ?_
    refine CALL 88 [.s (.int .i64 (awayF b k a s ((b.sights.getD j zSight).m))), .s (.int .i64 ((b.sights.getD j zSight).aw.lo)), .s (.int .i64 ((b.sights.getD j zSight).aw.hi))] (.s (.bool (withinF (awayF b k a s ((b.sights.getD j zSight).m)) ((b.sights.getD j zSight).aw.lo) ((b.sights.getD j zSight).aw.hi)))) [((((b.sights.getD j zSight).ship) == (k : Int)) && (!(decide ((j : Int) ∈ but))), true)] (by kernel_rfl) (goes_of (by kernel_rfl)) (by kernel_rfl) (by kernel_rfl) (fun _ _ w _ => within_calls _ _ _ w) ?_
    refine WPO_all tt_ok (by kernel_rfl) ?_
    refine WP_cond (((((b.sights.getD j zSight).ship) == (k : Int)) && (!(decide ((j : Int) ∈ but)))) && (!(withinF (awayF b k a s ((b.sights.getD j zSight).m)) ((b.sights.getD j zSight).aw.lo) ((b.sights.getD j zSight).aw.hi)))) (by kernel_rfl) (fun hc2 => ?_) (fun hc2 => ?_)
    · refine WP_seq (WP_region (WPO_all tt_ok (by kernel_rfl) ?_))
      refine WP_ret ?_
      exact ⟨.s (.bool false), by kernel_rfl, fun n w' h => ⟨by rw [show rightF b k a s but = false from List.all_eq_false.2 ⟨j, List.mem_range.2 (by omega), by unfold sightF; rw [hc2]; decide⟩]; rfl, h.bel⟩⟩
    refine WP_skip ?_
    refine WP_region (WPO_all tt_ok (by kernel_rfl) ?_)
    refine ⟨IntKind.i64.wrap ((j : Int) + 1), ?_, ?_, Le_sel (ts := [16, 15, 14, 8, 6, 4, 1, 3]) (ids := [5, 4, 0, 1, 3]) (nx := 6) (by kernel_rfl)⟩
    · refine ⟨j + 1, by omega, by rw [wrapI (by omega) (by omega)]; rfl, fun q hq => ?_⟩
      by_cases e : q = j
      · subst e; unfold sightF; rw [hc2]; rfl
      · exact hno q (by omega)
    · rw [wrapI (by omega) (by omega)]
      omega
  have hc1 := of_decide_eq_false hc1
  refine WP_exit ?_
  obtain rfl : j = b.sights.length := by omega
  refine WP_seq (WP_region (WPO_all tt_ok (by kernel_rfl) ?_))
  refine WP_ret ?_
  exact ⟨.s (.bool true), by kernel_rfl, fun n w' h => ⟨by rw [show rightF b k a s but = true from List.all_eq_true.2 fun q hq => hno q (List.mem_range.1 hq)]; rfl, h.bel⟩⟩
theorem still_calls (w : World) : Calls Tryd.prog 115 #[] w fun e w' => e = .returned (.agg #[iv 0, iv 0]) ∧ Below w.heap.size w w' := by
  refine calls_of_WP (cx := cx0 w Eng.n0 0) (n := Eng.n0) (vs := []) (hp := []) (nx := 0) tt_ok Tryd.func115 rfl rfl rfl (by kernel_rfl) (HSat0 _ _ _ _ _ _ (fun _ => rfl) (Nat.le_refl _)) (by simp) ?_
  refine WP_seq (WP_region (WPO_all tt_ok (by kernel_rfl) ?_))
  refine WP_seq (WP_region (WPO_all tt_ok (by kernel_rfl) ?_))
  refine WP_seq (WP_region (WPO_all tt_ok (by kernel_rfl) ?_))
  refine WP_ret ?_
  exact ⟨.g [.int .i64 0, .int .i64 0], by kernel_rfl, fun n w' h => ⟨rfl, h.bel⟩⟩
end Go.Proofs.YtamimgmoomcipaaDoor.Fw
namespace Go.Proofs.YtamimgmoomcipaaDoor.Fw
open Go Go.RowKit Go.Proofs.YtamimgmoomcipaaDoor.Eng
set_option linter.unusedVariables false
set_option linter.unusedSimpArgs false
def arrBV (m : Nat) (f : Nat → Bool) : Array Value := ((List.range m).map fun i => Value.bool (f i)).toArray
theorem arrB_c (n : Vn) (m : Nat) (f : Nat → Bool) : (AV.g (arrB m f)).c n = .agg (arrBV m f) := by
  simp only [AV.c, cellsV, arrB, arrBV, List.map_map]
  rfl
theorem arrBV_congr {m : Nat} {f g : Nat → Bool} (h : ∀ q, q < m → f q = g q) : arrBV m f = arrBV m g := by
  unfold arrBV
  congr 1
  exact List.map_congr_left fun q hq => by rw [h q (List.mem_range.1 hq)]
theorem arrB_set' {m j : Nat} {f g : Nat → Bool} {b : Bool} (hj : j < m) (h : ∀ q, q < m → g q = if q = j then b else f q) : arrB m g = (arrB m f).set j (.bool b) := by
  rw [← arrB_set hj]
  unfold arrB
  exact List.map_congr_left fun q hq => by rw [h q (List.mem_range.1 hq)]
theorem never_calls (w : World) : Calls Tryd.prog 116 #[] w fun e w' => e = .returned (.agg (arrBV 201 fun _ => false)) ∧ Below w.heap.size w w' := by
  refine calls_of_WP (cx := cx0 w Eng.n0 0) (n := Eng.n0) (vs := []) (hp := []) (nx := 0) tt_ok Tryd.func116 rfl rfl rfl (by kernel_rfl) (HSat0 _ _ _ _ _ _ (fun _ => rfl) (Nat.le_refl _)) (by simp) ?_
  refine WP_seq (WP_region (WPO_all tt_ok (by kernel_rfl) ?_))
  refine WP_seq (WP_region (WPO_all tt_ok (by kernel_rfl) ?_))
  refine WP_seq (WP_region (WPO_all tt_ok (by kernel_rfl) ?_))
  refine WP_ret ?_
  exact ⟨.g (arrB 201 (fun _ => false)), by kernel_rfl, fun n w' h => ⟨by rw [arrB_c], h.bel⟩⟩
def nearF (b : Book) (k : Nat) (a s : Int) (m : Nat) : Bool := decide ((m : Int) ≥ (b.ships.getD k zShip).m) && decide (awayF b k a s m ≤ b.br)
theorem near_step (b : Book) (k : Nat) (a s : Int) {j : Nat} (hj : j < 201) : ∀ q : Nat, q < 201 → (decide ((q : Int) < IntKind.i64.wrap ((j : Int) + 1)) && nearF b k a s q) = if q = j then nearF b k a s j else (decide ((q : Int) < (j : Int)) && nearF b k a s q) := fun q hq => by
  rw [wrapI (by omega) (by omega)]
  by_cases e : q = j
  · subst e
    rw [if_pos rfl, decide_eq_true (by omega)]
    rfl
  · rw [if_neg e]
    congr 1
    exact decide_eq_decide.2 (by omega)
theorem nears_calls (sv gv cv : Value) (b : Book) (k : Nat) (a s : Int) (w : World) (hb : BookAt w sv gv b) (hc : cv.oneCell' = true) (hk : k < b.ships.length) (hv : Valid b) (ha : 0 ≤ a ∧ a ≤ 1000) (hs : 0 ≤ s ∧ s ≤ 1000) :
    Calls Tryd.prog 105 #[bookV2 sv gv cv b, iv k, .agg #[iv a, iv s]] w fun e w' => e = .returned (.agg (arrBV 201 (nearF b k a s))) ∧ Below w.heap.size w w' := by
  refine calls_of_WP (cx := cx0 w (vn [sv, gv, cv]) 3) (n := vn [sv, gv, cv]) (vs := [.g (bookC b), .s (.int .i64 (k : Int)), .g [.int .i64 a, .int .i64 s]]) (hp := hpB b) (nx := 3) tt_ok Tryd.func105 rfl rfl rfl (by kernel_rfl) (HSat_bookC hb hc) (by simp [AV.ok, cellsOk, AC.ok, bookC]) ?_
  refine WP_seq (WP_region (WPO_all tt_ok (by kernel_rfl) ?_))
  refine WP_seq (WP_region (CALL 116 [] (.g (arrB 201 (fun _ => false))) [] (by kernel_rfl) (goes_of (by kernel_rfl)) (by kernel_rfl) (by kernel_rfl) (fun _ n w _ => by rw [arrB_c]; exact never_calls w) ?_))
  refine WPO_all tt_ok (by kernel_rfl) ?_
  refine WP_seq (WP_seq (WP_region (WPO_all tt_ok (by kernel_rfl) ?_)))
  refine WP_block (WP_loop (σ := Int) (fun zz => ⟨37, [(10, [], .s (.int .i64 zz)), (7, [], .s (.p 6 0)), (6, [], .s (.p 5 0)), (5, [], .s (.p 4 0)), (3, [], .s (.p 3 0)), (1, [], .s (.int .i64 (k : Int)))], [(6, .box 133 (arrB 201 (fun q => decide ((q : Int) < zz) && nearF b k a s q))), (5, .box 133 (arrB 201 (fun _ => false))), (4, .box 102 [.int .i64 a, .int .i64 s]), (3, .box 94 [.ref 0, .int .i64 b.hear.lo, .int .i64 b.hear.hi, .int .i64 b.br, .int .i64 b.cr, .int .i64 b.sl, .ref 1, .ref 2]), (0, .sl .ro 65 5 b.ships encShip zShip), (1, .sl .ro 70 4 b.sights encSight zSight)], 7, []⟩) (fun zz => ∃ j : Nat, j ≤ 201 ∧ zz = j) (fun zz => 201 - zz.toNat) 0 (⟨0, by omega, rfl⟩) (Le_sel (ts := [10, 7, 6, 5, 3, 1]) (ids := [6, 5, 4, 3, 0, 1]) (nx := 7) (by kernel_rfl)) ?_)
  rintro i hinv
  obtain ⟨j, hj, rfl⟩ := hinv
  refine WP_seq (WP_region (WPO_all tt_ok (by kernel_rfl) ?_))
  refine WP_seq (WP_cond (decide ((j : Int) < 201)) (by kernel_rfl) (fun hc1 => ?_) (fun hc1 => ?_))
  · have hc1 := of_decide_eq_true hc1
    have hsh := (hv.ship hk).1
    refine WP_skip ?_
    refine WP_seq (WP_block ?_)
    refine WP_seq (WP_region (WPO_all tt_ok (by kernel_rfl) ?_))
    refine WP_drawH [6] (by kernel_rfl) (by kernel_rfl) ?_
    refine H_run tt_ok [0, 1, 2, 3, 4, 5] (f' := 17) (by kernel_rfl) (by kernel_rfl) (by kernel_rfl) ?_
    refine H_IX tt_ok 6 (k : Int) b.ships.length [] (by kernel_rfl) (fun _ => ⟨by omega, by omega⟩) (by kernel_rfl) (by kernel_rfl) ?_
    refine H_step 7 (by kernel_rfl) (by kernel_rfl) (fun hfz cx' hx1 hx2 => ?_)
    refine WPO_all tt_ok (by kernel_rfl) ?_
    refine ⟨rfl, (hfz.fnds [5, 4, 3, 0, 1] (by kernel_rfl) ⟨by kernel_rfl, by kernel_rfl, by kernel_rfl, by kernel_rfl, by kernel_rfl, trivial⟩ (by kernel_rfl)), ?_⟩
    refine H_run tt_ok [8, 9, 10, 11, 12, 13, 14, 16, 17, 18] (f' := 5) (by kernel_rfl) (by kernel_rfl) (by kernel_rfl) ?_
    refine H_step 15 (by kernel_rfl) (by kernel_rfl) (fun hfz cx' hx1 hx2 => ?_)
    refine CALL 117 [.g [.ref 0, .int .i64 b.hear.lo, .int .i64 b.hear.hi, .int .i64 b.br, .int .i64 b.cr, .int .i64 b.sl, .ref 1, .ref 2], .s (.int .i64 (k : Int)), .g [.int .i64 a, .int .i64 s], .s (.int .i64 (j : Int))] (.s (.int .i64 (awayF b k a s (j : Int)))) [(decide ((j : Int) ≥ ((b.ships.getD k zShip).m)), true)] (by kernel_rfl) (goes_of (by kernel_rfl)) (by kernel_rfl) (by kernel_rfl) (fun _ n w h => away_calls (n 0) (n 1) (n 2) b _ _ _ _ w (HSat_toBook h (by kernel_rfl) (by kernel_rfl)) (h.one 2) hk hv (by omega) (by omega) (by omega)) ?_
    refine WPO_end (by kernel_rfl) ⟨rfl, (hfz.fnds [5, 4, 3, 0, 1] (by kernel_rfl) ⟨by kernel_rfl, by kernel_rfl, by kernel_rfl, by kernel_rfl, by kernel_rfl, trivial⟩ (by kernel_rfl)), ?_⟩
    refine H_run tt_ok [19, 20] (f' := 2) (by kernel_rfl) (by kernel_rfl) (by kernel_rfl) ?_
    refine H_AIX tt_ok 21 (j : Int) 201 [] (by kernel_rfl) (fun _ => ⟨by omega, by omega⟩) (by kernel_rfl) (by kernel_rfl) ?_
    refine H_step 22 (by kernel_rfl) (by kernel_rfl) (fun hfz cx' hx1 hx2 => ?_)
    refine AST tt_ok 6 (j : Int) 1 0 133 4 (arrB 201 (fun q => decide ((q : Int) < (j : Int)) && nearF b k a s q)) (arrB 201 (fun q => decide ((q : Int) < IntKind.i64.wrap ((j : Int) + 1)) && nearF b k a s q)) (.bool ((decide ((j : Int) ≥ ((b.ships.getD k zShip).m))) && (decide ((awayF b k a s (j : Int)) ≤ b.br)))) (by kernel_rfl) (by kernel_rfl) (by simp [arrB, arrI]; omega) (by rw [show ((j : Int).toNat * 1 + 0) = j by simp]; exact arrB_set' (j := j) (by omega) (near_step b k a s (by omega))) (by kernel_rfl) ?_
    refine WPO_end (by kernel_rfl) ⟨rfl, (hfz.fnds [5, 4, 3, 0, 1] (by kernel_rfl) ⟨by kernel_rfl, by kernel_rfl, by kernel_rfl, by kernel_rfl, by kernel_rfl, trivial⟩ (by kernel_rfl)), ?_⟩
    refine H_done (by kernel_rfl) ?_
    refine WP_region (WPO_all tt_ok (by kernel_rfl) ?_)
    refine ⟨IntKind.i64.wrap ((j : Int) + 1), ?_, ?_, Le_sel (ts := [10, 7, 6, 5, 3, 1]) (ids := [6, 5, 4, 3, 0, 1]) (nx := 7) (by kernel_rfl)⟩
    · exact ⟨j + 1, by omega, by rw [wrapI (by omega) (by omega)]; rfl⟩
    · rw [wrapI (by omega) (by omega)]
      omega
  have hc1 := of_decide_eq_false hc1
  refine WP_exit ?_
  have hj201 : j = 201 := by omega
  refine WP_seq (WP_region (WPO_all tt_ok (by kernel_rfl) ?_))
  refine WP_ret ?_
  exact ⟨.g (arrB 201 (fun q => decide ((q : Int) < (j : Int)) && nearF b k a s q)), by kernel_rfl, fun n w' h => ⟨by rw [arrB_c, arrBV_congr (g := nearF b k a s) fun q hq => by simp; omega], h.bel⟩⟩
end Go.Proofs.YtamimgmoomcipaaDoor.Fw
namespace Go.Proofs.YtamimgmoomcipaaDoor.Fw
open Go Go.RowKit Go.Proofs.YtamimgmoomcipaaDoor.Eng
set_option linter.unusedVariables false
set_option linter.unusedSimpArgs false
def idxB : List Bool → Bool → Int
  | [], _ => -1
  | y :: r, x => if x = y then 0 else (let i := idxB r x; if i < 0 then i else i + 1)
theorem idxB_none {l : List Bool} {x : Bool} (h : ∀ j, (hj : j < l.length) → x ≠ l[j]) : idxB l x = -1 := by
  induction l with
  | nil => rfl
  | cons y r ih =>
    have h0 := h 0 (by simp)
    simp only [List.getElem_cons_zero] at h0
    have := ih fun j hj => by have := h (j + 1) (by simpa using hj); simpa using this
    simp only [idxB, h0, if_false, this]
    rfl
theorem idxB_some {l : List Bool} {x : Bool} {k : Nat} (hk : k < l.length) (h : ∀ j, (hj : j < k) → x ≠ l[j]'(by omega)) (he : x = l[k]) : idxB l x = k := by
  induction l generalizing k with
  | nil => simp at hk
  | cons y r ih =>
    cases k with
    | zero => simp at he; simp [idxB, he]
    | succ k =>
      have h0 := h 0 (by omega)
      simp only [List.getElem_cons_zero] at h0
      have := ih (k := k) (by simpa using hk) (fun j hj => by have := h (j + 1) (by omega); simpa using this) (by simpa using he)
      simp only [idxB, h0, if_false, this]
      rw [if_neg (by omega)]
      simp
theorem idxB_nonneg {l : List Bool} {x : Bool} : (0 ≤ idxB l x) ↔ x ∈ l := by
  induction l with
  | nil => simp [idxB]
  | cons y r ih =>
    simp only [idxB, List.mem_cons]
    by_cases h : x = y
    · simp [h]
    · simp only [h, if_false, false_or, ← ih]
      by_cases h2 : idxB r x < 0
      · simp only [h2, if_true]
      · simp only [h2, if_false]; omega
theorem indexB_calls (v : Value) (l : List Bool) (x : Bool) (w : World) (hr : Reads w v 1 l encBl false) : Calls Tryd.prog 121 #[v, .bool x] w fun e w' => e = .returned (iv (idxB l x)) ∧ Below w.heap.size w w' := by
  refine calls_of_WP (cx := cx0 w (vn [v]) 1) (n := vn [v]) (vs := [.s (.ref 0), .s (.bool x)]) (hp := [(0, .sl .ro 4 1 l encBl false)]) (nx := 1) tt_ok Tryd.func121 rfl rfl rfl (by kernel_rfl) (HSat_args (vn_one (by simp [hr.one])) (Nat.le_refl _) ⟨⟨⟨fun _ => rfl, by decide, hr⟩, (Nat.le_of_ble_eq_true rfl)⟩, trivial⟩) (vsOk (by kernel_rfl)) ?_
  refine WP_seq (WP_region (WPO_all tt_ok (by kernel_rfl) ?_))
  refine WP_seq (WP_seq (WP_region (WPO_all tt_ok (by kernel_rfl) ?_)))
  refine WP_block (WP_loop (σ := Int) (fun zz => ⟨19, [(8, [], .s (.int .i64 zz)), (7, [], .s (.int .i64 (l.length : Int))), (4, [], .s (.int .i64 0)), (0, [], .s (.ref 0)), (1, [], .s (.bool x))], [(0, .sl .ro 4 1 l encBl false)], 1, []⟩) (fun zz => ∃ k : Nat, k ≤ l.length ∧ zz = k ∧ ∀ j, (hj : j < l.length) → j < k → x ≠ l[j]) (fun zz => l.length - zz.toNat) 0 (⟨0, by omega, rfl, fun j _ h => by omega⟩) (Le_sel (ts := [8, 7, 4, 0, 1]) (ids := [0]) (nx := 1) (by kernel_rfl)) ?_)
  rintro i hinv
  obtain ⟨k, hk, hi, hno⟩ := hinv
  subst hi
  have hl := Reads.len hr
  refine WP_seq (WP_region (WPO_all tt_ok (by kernel_rfl) ?_))
  refine WP_seq (WP_cond (decide ((k : Int) < (l.length : Int))) (by kernel_rfl) (fun hc1 => ?_) (fun hc1 => ?_))
  · have hc1 := of_decide_eq_true hc1
    refine WP_skip ?_
    refine WP_seq (WP_block ?_)
    refine WP_seq (WP_region (WPO_all tt_ok (by kernel_rfl) ?_))
    refine WP_seq (WP_region (WPO_run tt_ok 3 (by kernel_rfl) ?_))
    refine IX tt_ok (k : Int) l.length [] (by kernel_rfl) (fun _ => ⟨by omega, by omega⟩) ?_
    refine WPO_run tt_ok 1 (by kernel_rfl) ?_
    refine BIN .eql 4 (.tmp 11) (.tmp 15) (.s (.bool x)) (.s (.bool (l.getD k false))) (.s (.bool (x == (l.getD k false)))) [] (by kernel_rfl) (by kernel_rfl) (by kernel_rfl) (fun _ => BinOk_b (by kernel_rfl) _ _) ?_
    refine WPO_nil ?_
    refine WP_cond (x == (l.getD k false)) (by kernel_rfl) (fun hc2 => ?_) (fun hc2 => ?_)
    · refine WP_seq (WP_region (WPO_all tt_ok (by kernel_rfl) ?_))
      refine WP_ret ?_
      exact ⟨.s (ai k), by kernel_rfl, fun n w' h => ⟨by rw [idxB_some (k := k) (by omega) (fun j hj => hno j (by omega) hj) (by simpa [List.getD_eq_getElem?_getD, List.getElem?_eq_getElem (show k < l.length by omega)] using hc2)]; rfl, h.bel⟩⟩
    refine WP_skip ?_
    refine WP_region (WPO_all tt_ok (by kernel_rfl) ?_)
    refine ⟨IntKind.i64.wrap ((k : Int) + 1), ?_, ?_, Le_sel (ts := [8, 7, 4, 0, 1]) (ids := [0]) (nx := 1) (by kernel_rfl)⟩
    · refine ⟨k + 1, by omega, by rw [wrapI (by omega) (by omega)]; rfl, fun j hj hjk => ?_⟩
      by_cases e : j = k
      · subst e; simpa [List.getD_eq_getElem?_getD, List.getElem?_eq_getElem hj] using hc2
      · exact hno j hj (by omega)
    · rw [wrapI (by omega) (by omega)]
      omega
  have hc1 := of_decide_eq_false hc1
  refine WP_exit ?_
  obtain rfl : k = l.length := by omega
  refine WP_seq (WP_region (WPO_all tt_ok (by kernel_rfl) ?_))
  refine WP_ret ?_
  exact ⟨.s (ai (-1)), by kernel_rfl, fun n w' h => ⟨by rw [idxB_none fun j hj => hno j hj hj]; rfl, h.bel⟩⟩
theorem containsB_calls (v : Value) (l : List Bool) (x : Bool) (w : World) (hr : Reads w v 1 l encBl false) : Calls Tryd.prog 119 #[v, .bool x] w fun e w' => e = .returned (.bool (decide (x ∈ l))) ∧ Below w.heap.size w w' := by
  refine calls_of_WP (cx := cx0 w (vn [v]) 1) (n := vn [v]) (vs := [.s (.ref 0), .s (.bool x)]) (hp := [(0, .sl .ro 4 1 l encBl false)]) (nx := 1) tt_ok Tryd.func119 rfl rfl rfl (by kernel_rfl) (HSat_args (vn_one (by simp [hr.one])) (Nat.le_refl _) ⟨⟨⟨fun _ => rfl, by decide, hr⟩, (Nat.le_of_ble_eq_true rfl)⟩, trivial⟩) (vsOk (by kernel_rfl)) ?_
  refine WP_seq (WP_region (WPO_all tt_ok (by kernel_rfl) ?_))
  refine WP_seq (WP_region (WPO_run tt_ok 2 (by kernel_rfl) ?_))
  refine CALL 121 [.s (.ref 0), .s (.bool x)] (.s (.int .i64 (idxB l x))) [] (by kernel_rfl) (goes_of (by kernel_rfl)) (by kernel_rfl) (by kernel_rfl) (fun _ n w h => indexB_calls (n 0) _ _ w (h.reads (id := 0) (kd := .ro) (e := 4) (by kernel_rfl))) ?_
  refine WPO_all tt_ok (by kernel_rfl) ?_
  refine WP_ret ?_
  exact ⟨.s (.bool (decide ((idxB l x) ≥ 0))), by kernel_rfl, fun n w' h => ⟨by simp only [AV.c, AC.c, ge_iff_le, idxB_nonneg], h.bel⟩⟩
def hitF (f : Nat → Bool) (first many : Nat) : Bool := (List.range many).any fun q => f (first + q)
theorem arrEq_false {m : Nat} {f g : Nat → Bool} {q : Nat} (hq : q < m) (h : f q ≠ g q) : arrEq m f g = false := by
  unfold arrEq
  rw [Bool.eq_false_iff]
  intro he
  have he := eq_of_beq he
  have := congrArg (·[q]?) he
  simp [hq] at this
  exact h this
theorem hit_eq {f : Nat → Bool} {first many : Nat} (h1 : first + many ≤ 201) : (!arrEq 201 f (fun _ => false) && decide (true ∈ (List.range (((first + many : Nat) : Int).toNat - first)).map fun q => f (first + q))) = hitF f first many := by
  have e : ((first + many : Nat) : Int).toNat - first = many := by rw [Int.toNat_natCast]; omega
  rw [e]
  unfold hitF
  rw [Bool.eq_iff_iff]
  simp only [Bool.and_eq_true, Bool.not_eq_true', decide_eq_true_eq, List.mem_map, List.mem_range, List.any_eq_true]
  constructor
  · rintro ⟨_, q, hq, h⟩; exact ⟨q, hq, h⟩
  · rintro ⟨q, hq, h⟩
    exact ⟨arrEq_false (q := first + q) (by omega) (by rw [h]; decide), q, hq, h⟩
theorem hit_calls (f : Nat → Bool) (first many : Nat) (w : World) (h1 : first + many ≤ 201) : Calls Tryd.prog 108 #[.agg (arrBV 201 f), .agg #[iv first, iv many]] w fun e w' => e = .returned (.bool (hitF f first many)) ∧ Below w.heap.size w w' := by
  rw [← arrB_c Eng.n0]
  refine calls_of_WP (cx := cx0 w Eng.n0 0) (n := Eng.n0) (vs := [.g (arrB 201 f), .g [.int .i64 (first : Int), .int .i64 (many : Int)]]) (hp := []) (nx := 0) tt_ok Tryd.func108 rfl rfl rfl (by kernel_rfl) (HSat0 _ _ _ _ _ _ (fun _ => rfl) (Nat.le_refl _)) (vsOk (by kernel_rfl)) ?_
  have hw : IntKind.i64.wrap ((first : Int) + (many : Int)) = ((first + many : Nat) : Int) := by rw [wrapI (by omega) (by omega)]; omega
  refine WP_seq (WP_region (WPO_all tt_ok (by kernel_rfl) ?_))
  refine WP_seq (WP_draw (by kernel_rfl) (by kernel_rfl) ?_)
  refine WPQ_run tt_ok 1 (by kernel_rfl) ?_
  refine QCALL 116 [] (.g (arrB 201 (fun _ => false))) [] (by kernel_rfl) (goes_of (by kernel_rfl)) (by kernel_rfl) (by kernel_rfl) (fun _ n w _ => by rw [arrB_c]; exact never_calls w) ?_
  refine QBIN .neq 133 (.tmp 5) (.tmp 6) (.g (arrB 201 f)) (.g (arrB 201 (fun _ => false))) (.s (.bool (!(arrEq 201 f (fun _ => false))))) [] (by kernel_rfl) (by kernel_rfl) (by kernel_rfl) (fun _ => BinOk_fBn (by kernel_rfl) _ _) ?_
  refine WPQ_run tt_ok 8 (by kernel_rfl) ?_
  refine QBSL tt_ok (first : Int) (IntKind.i64.wrap ((first : Int) + (many : Int))) 201 201 [(!(arrEq 201 f (fun _ => false)), true)] (by kernel_rfl) (fun _ => ⟨by omega, by rw [hw]; omega, by rw [hw]; omega, by omega⟩) (by kernel_rfl) ?_
  refine QCALL 119 [.s (.sb 0 0 1 first ((IntKind.i64.wrap ((first : Int) + (many : Int))).toNat) 201), .s (.bool true)] (.s (.bool (decide (true ∈ (List.range ((IntKind.i64.wrap ((first : Int) + (many : Int))).toNat - first)).map fun q => f (first + q))))) [(!(arrEq 201 f (fun _ => false)), true)] (by kernel_rfl) (goes_of (by kernel_rfl)) (by kernel_rfl) (by kernel_rfl) (fun _ n w h => containsB_calls _ _ true w (sb_arrB h (ty := 133) (m := 201) (by kernel_rfl) (by rw [hw, Int.toNat_natCast]; omega) (by rw [hw, Int.toNat_natCast]; omega) (by omega))) ?_
  refine WPQ_all tt_ok (by kernel_rfl) ?_
  refine WP_ret ?_
  exact ⟨.s (.bool ((!(arrEq 201 f (fun _ => false))) && (decide (true ∈ (List.range ((IntKind.i64.wrap ((first : Int) + (many : Int))).toNat - first)).map fun q => f (first + q))))), by kernel_rfl, fun n w' h => ⟨by simp only [AV.c, AC.c, hw]; rw [hit_eq h1], h.bel⟩⟩
end Go.Proofs.YtamimgmoomcipaaDoor.Fw
namespace Go.Proofs.YtamimgmoomcipaaDoor.Eng
open Go Go.RowKit
set_option linter.unusedVariables false
set_option linter.unusedSimpArgs false
abbrev mapE {κ : Type} (g : Nat) (L : List κ) (ek ex : κ → Value) : HE := .jf (fun w => w.heap[g]? = some (.map (ents L ek ex) L.length)) (· = g)
theorem mapE_stab {κ : Type} {g : Nat} {L : List κ} {ek ex : κ → Value} (w1 w2 : World) (h : w1.heap[g]? = some (.map (ents L ek ex) L.length)) (hw : ∀ q, q = g → w2.heap[q]? = w1.heap[q]?) : w2.heap[g]? = some (.map (ents L ek ex) L.length) := (hw g rfl).trans h
section
variable {P : Program} {tt : TT} {cx : Cx} {s s' : AS} {Q : Exit → AS → Prop} {ops : Array Oper} {l : List Oper}
theorem MKMg {κ : Type} (ek ex : κ → Value) (d : Option Tmp) (h : mkmA s l = some d) (hp : ∀ g, ((s.add (mapE g ([] : List κ) ek ex)).put d [] (.s (.v (.map (some g))))).isSome = true)
    (hK : ∀ g, WPO P cx ops l.tail (((s.add (mapE g ([] : List κ) ek ex)).put d [] (.s (.v (.map (some g))))).getD s) Q) : WPO P cx ops l s Q := fun n a w hs => by
  cases l with
  | nil => cases h
  | cons o rest =>
    obtain ⟨s', hs'⟩ := Option.isSome_iff_exists.1 (hp w.heap.size)
    have hK1 := hK w.heap.size
    rw [hs'] at hK1
    simp only [mkmA] at h
    split at h <;> try (cases h; done)
    rename_i t ho hg
    cases h
    have hH : Holds a [] := fun x hx => by cases hx
    have hrun : (execOp a.eval o).run P w = .ok (.value (.map (some w.heap.size))) (w.alloc (.map (ents ([] : List κ) ek ex) ([] : List κ).length)) := by
      unfold execOp
      rw [ho]
      simp [Instr.makeMap, ents, run_newObj_alloc]
    have hh := hs.heap.add (e := mapE w.heap.size ([] : List κ) ek ex) (v := .nilFunc) (w' := w.alloc (.map (ents ([] : List κ) ek ex) ([] : List κ).length))
      ((Below.refl _ w).alloc (Nat.le_refl _) _) rfl ⟨World.alloc_heap_new w _, fun g hg => by cases hg; exact hs.heap.fr.news _ hs.heap.fr.size, mapE_stab⟩ trivial (fun g' hg' => by cases hg'; simp) (fun g' hg' => by cases hg'; exact .inl (Nat.le_refl _))
    exact wp_value (wanted_none (ops := ops) hg) hrun (hK1 _ _ _ (put_sat (env_add hs (upd_lt n s.nx _) hh) hs' (fun _ => ⟨rfl, trivial⟩) (fun hn => absurd hH hn)))
def mugA (tt : TT) (s : AS) : List Oper → Option (AV × TypeId × AV × AV × Option Tmp)
  | o :: _ => match o.op, o.guard with
    | .mapUpdate t m k x, none => match tyL tt t, ev s [] m, ev s [] k, ev s [] x with
      | some ⟨_, _, _, .map kt _⟩, some mv, some kv, some xv => some (mv, kt, kv, xv, o.dst)
      | _, _, _, _ => none
    | _, _ => none
  | [] => none
theorem MUPg (hT : TTok P tt) {κ : Type} (L : List κ) (ek ex : κ → Value) (x : κ) (id g : Nat) (kt : TypeId) (kv xv : AV) (h : mugA tt s l = some (.s (.v (.map (some g))), kt, kv, xv, none)) (hf : fnd s.hp id = some (mapE g L ek ex))
    (hk : ∀ n, kv.c n = ek x ∧ xv.c n = ex x) (hck : ∀ w, (Instr.checkKey false 10000 kt (ek x)).run P w = .ok () w) (hfind : ∀ w, (Instr.findKey kt (ek x) (ents L ek ex).toList).run P w = .ok none w)
    (hK : WPO P cx ops l.tail { s with hp := rep s.hp id (mapE g (L ++ [x]) ek ex) } Q) : WPO P cx ops l s Q := fun n a w hs => by
  cases l with
  | nil => cases h
  | cons o rest =>
    simp only [mugA] at h
    split at h <;> try (cases h; done)
    rename_i t m k xx ho hg
    split at h <;> try (cases h; done)
    rename_i z1 b1 zv kt' e mv' kv' xv' ht hm' hk' hx'
    simp only [Option.some.injEq, Prod.mk.injEq] at h
    obtain ⟨rfl, rfl, rfl, rfl, hdst⟩ := h
    obtain ⟨F⟩ := hT.get ht
    have hd : F.desc = .map kt' e := by
      have := F.td
      cases hd : F.desc <;> rw [hd] at this <;> simp only [tdOf] at this <;> first
        | (cases this; done)
        | (injection this with h1 h2; rw [h1, h2])
    have hH : Holds a [] := fun x hx => by cases hx
    obtain ⟨e1, _⟩ := ev_sound hs.env hH hm'
    obtain ⟨e2, _⟩ := ev_sound hs.env hH hk'
    obtain ⟨e3, _⟩ := ev_sound hs.env hH hx'
    obtain ⟨ho1, hok, _⟩ := hs.heap.ents _ (fnd_mem hf)
    rw [(hk n).1] at e2
    rw [(hk n).2] at e3
    simp only [AV.c, AC.c] at e1
    have hrun : (execOp a.eval o).run P w = .ok .skip (w.putObj g (.map (ents (L ++ [x]) ek ex) (L ++ [x]).length)) := by
      unfold execOp
      rw [ho]
      simp only [e1, e2, e3, Sem.run_bind, Instr.mapUpdate, run_underlying F.hdesc, hd, Result.andThen_ok, run_getObj' ho1, hck, hfind, run_setObj' ho1]
      rw [ents_snoc, List.length_append]
      rfl
    refine wp_skip1 (wanted_none (ops := ops) hg) hrun ?_
    rw [hdst]
    have hh := hs.heap.write (w' := w.putObj g (.map (ents (L ++ [x]) ek ex) (L ++ [x]).length)) (e := mapE g (L ++ [x]) ek ex) hf rfl (g := g) rfl rfl (fun _ => rfl) (Nat.le_refl _) (hok g rfl) (fun k hk => World.putObj_heap_other hk) World.putObj_size rfl rfl rfl
      ⟨World.putObj_heap_same (Array.getElem?_eq_some_iff.1 ho1).1, hok, mapE_stab⟩ trivial
    exact hK _ _ _ (env_hp hs (more_rep hf (Nat.le_refl _)) hh)
theorem Le_freeze {id : Nat} {F : World → Prop} {G : Nat → Prop} (hf : fnd s.hp id = some (.jf F G)) : Le cx s { s with hp := rep s.hp id (.pf F G) } := fun n a w hs => by
  have h := hs.heap.ents _ (fnd_mem hf)
  exact ⟨n, hs.weak hf (fun h => by cases h) (fun g hg => hg) (Nat.le_refl _) ⟨h.1, h.2.2⟩ trivial⟩
theorem Le_facts {i j : Nat} {F F' : World → Prop} {G G' : Nat → Prop} (hi : fnd s.hp i = some (.pf F G)) (hj : fnd s.hp j = some (.pf F' G')) (hne : Nat.beq i j = false) (F2 : World → Prop) (G2 : Nat → Prop) (hF : ∀ w, F w → F' w → F2 w) (hG : ∀ g, G2 g → G g ∨ G' g)
    (hst : ∀ w1 w2 : World, F2 w1 → (∀ g, G2 g → w2.heap[g]? = w1.heap[g]?) → F2 w2) : Le cx s { s with hp := (s.nx, .pf F2 G2) :: rem (rem s.hp i) j, nx := s.nx + 1 } := fun n a w hs => by
  have h1 := hs.heap.ents _ (fnd_mem hi)
  have h2 := hs.heap.ents _ (fnd_mem hj)
  have hs1 : Sat cx n { s with hp := rem s.hp i } a w := env_hp hs (rem_more s i) (hs.heap.rem i)
  have hs2 : Sat cx n { s with hp := rem (rem s.hp i) j } a w := env_hp hs1 (rem_more { s with hp := rem s.hp i } j) (hs1.heap.rem j)
  refine ⟨upd n s.nx .nilFunc, env_add hs2 (upd_lt n s.nx _) (hs2.heap.add (e := .pf F2 G2) (v := .nilFunc) (Below.refl _ w) rfl ⟨hF w h1.1 h2.1, hst⟩ trivial (fun g hg => ?_) (fun g hg => .inr fun x hx hm hgx => ?_))⟩
  · rcases hG g hg with h | h
    · exact hs.heap.lt _ (fnd_mem hi) g h
    · exact hs.heap.lt _ (fnd_mem hj) g h
  · have hm' : x.2.mut = true := hm.resolve_left (by simp [HE.mut])
    have hx2 : x ∈ s.hp := (rem_sub s.hp i).subset ((rem_sub _ j).subset hx)
    have hsym : ∀ (x y : Nat × HE), Sep n x y → Sep n y x := fun x y h hm g h1 h2 => h hm.symm g h2 h1
    rcases hG g hg with h | h
    · refine pw_mem hsym hs.heap.sep hx2 (fnd_mem hi) (fun e => ?_) (.inl hm') g hgx h
      rw [e] at hm'; cases hm'
    · refine pw_mem hsym hs.heap.sep hx2 (fnd_mem hj) (fun e => ?_) (.inl hm') g hgx h
      rw [e] at hm'; cases hm'
theorem Le_nil {id j : Nat} {ty e : TypeId} {cs : List AC} (hf : fnd s.hp id = some (.box ty cs)) (hj : cs[j]? = some (.v (.slice none 0 0))) {sz : Nat} {α : Type} (enc : α → List Value) (z : α) (henc : ∀ y, (enc y).length = sz) (hid : Nat.ble (id + 1) s.nx = true) :
    Le cx s { s with hp := (s.nx, .sl .own e sz ([] : List α) enc z) :: rep s.hp id (.box ty (cs.set j (.ref s.nx))), nx := s.nx + 1 } := fun n a w hs => by
  have hh := hs.heap.add (e := .sl .own e sz ([] : List α) enc z) (v := .slice none 0 0) (w' := w) (Below.refl _ w) rfl ⟨henc, fun g hg => (by cases hg), ⟨(by simp [flat]), .inl ⟨rfl, rfl⟩⟩⟩ trivial (fun g hg => (by cases hg)) (fun g hg => (by cases hg))
  have hs1 := env_add hs (upd_lt n s.nx _) hh
  have hne : id ≠ s.nx := fun e => by have := Nat.le_of_ble_eq_true hid; omega
  have hf1 : fnd (s.add (.sl .own e sz ([] : List α) enc z)).hp id = some (.box ty cs) := by
    show fnd ((s.nx, _) :: s.hp) id = _
    rw [fnd_cons_ne (fun e => hne e.symm)]; exact hf
  obtain ⟨g, hv, hok, hheap⟩ := hs1.heap.ents _ (fnd_mem hf1)
  have hcells : cellsV (upd n s.nx (.slice none 0 0)) (cs.set j (.ref s.nx)) = cellsV (upd n s.nx (.slice none 0 0)) cs := by
    unfold cellsV
    congr 1
    apply List.ext_getElem?
    intro q
    simp only [List.getElem?_map, List.getElem?_set]
    by_cases hq : j = q
    · subst hq
      have hlt := (List.getElem?_eq_some_iff.1 hj).1
      simp only [if_true, hlt, hj, Option.map_some, AC.c, upd_same]
    · simp only [hq, if_false]
  have hokc := hs1.heap.oks _ (fnd_mem hf1)
  have hw := hs1.weak (e := .box ty (cs.set j (.ref s.nx))) hf1 (fun h => h) (fun g hg => hg) (Nat.le_refl _) ⟨g, hv, hok, by rw [hcells]; exact hheap⟩ (fun c hc => by
    rcases List.mem_or_eq_of_mem_set hc with h | h
    · exact hokc c h
    · subst h; exact Nat.lt_succ_self _)
  refine ⟨upd n s.nx (.slice none 0 0), ?_⟩
  have : ({ s.add (.sl .own e sz ([] : List α) enc z) with hp := rep (s.add (.sl .own e sz ([] : List α) enc z)).hp id (.box ty (cs.set j (.ref s.nx))) } : AS) = { s with hp := (s.nx, .sl .own e sz ([] : List α) enc z) :: rep s.hp id (.box ty (cs.set j (.ref s.nx))), nx := s.nx + 1 } := by
    have hb : Nat.beq s.nx id = false := by
      rcases h : Nat.beq s.nx id with _ | _
      · rfl
      · exact absurd (Nat.eq_of_beq_eq_true h).symm hne
    simp only [AS.add, rep, hb, cond_false]
  rw [this] at hw
  exact hw
theorem WPO_le (hl : Le cx s s') (h : WPO P cx ops l s' Q) : WPO P cx ops l s Q := fun n a w hs => by obtain ⟨n', hs'⟩ := hl n a w hs; exact h n' a w hs'
theorem WP_cut {S1 S2 : AS} {c : Code} (hl : Le cx s S1) (he : S1 = S2) (h : WP P cx S2 c Q) : WP P cx s c Q := WP_le hl (he ▸ h)
theorem HSat.two {n : Vn} {w : World} (h : HSat cx n s w) {i j : Nat} {F F' : World → Prop} {G G' : Nat → Prop} (hi : fnd s.hp i = some (.jf F G)) (hj : fnd s.hp j = some (.pf F' G')) (hij : Nat.beq i j = false) (m : Nat) (hm : cx.m0 ≤ m) (him : i < m) (hjm : j < m) :
    HSat cx n ⟨0, [], [(i, .jf F G), (j, .pf F' G')], m, []⟩ w := by
  have hmem : ∀ x ∈ [(i, HE.jf F G), (j, HE.pf F' G')], x ∈ s.hp := fun x hx => by
    rcases List.mem_cons.1 hx with rfl | hx
    · exact fnd_mem hi
    · rw [List.mem_singleton.1 hx]; exact fnd_mem hj
  refine ⟨h.fr, h.ini, hm, h.one, fun x hx => h.ents x (hmem x hx), fun x hx => ?_, ?_, fun x hx => h.lt x (hmem x hx), fun x hx => ?_⟩
  · rcases List.mem_cons.1 hx with rfl | hx
    · trivial
    · rw [List.mem_singleton.1 hx]; trivial
  · refine List.pairwise_cons.2 ⟨fun y hy => ?_, List.pairwise_singleton _ _⟩
    rw [List.mem_singleton.1 hy]
    have hsym : ∀ (x y : Nat × HE), Sep n x y → Sep n y x := fun x y h hm g h1 h2 => h hm.symm g h2 h1
    exact pw_mem hsym h.sep (fnd_mem hi) (fnd_mem hj) (fun e => by cases e)
  · rcases List.mem_cons.1 hx with rfl | hx
    · exact him
    · rw [List.mem_singleton.1 hx]; exact hjm
def mkfA (s : AS) : List Oper → Option (FuncId × List AV × List AV × Option Tmp)
  | o :: _ => match o.op, o.guard with
    | .makeFunc (.func f) fi ca, none => match evl s [] fi.toList, evl s [] ca.toList with
      | some u, some v => some (f, u, v, o.dst)
      | _, _ => none
    | _, _ => none
  | [] => none
def mkfP (s : AS) (l : List Oper) : Option AS :=
  match mkfA s l with
  | some (f, u, v, d) => (s.add (.clo f u v)).put d [] (.s (.ref s.nx))
  | none => none
theorem H_mkf {s0 : AS} (i : Nat) {fuel : Nat} {listed : Array Bool} (h : (mkfP s (opAt ops i)).isSome = true) (hs : Region.noSelect ops = true) (hb : takB ops listed i = true) (h4 : idsLt s.nx s0.hp = true)
    (hK : WPH P cx ops s0 fuel (listed.setIfInBounds i true) ((mkfP s (opAt ops i)).getD s) Q) : WPH P cx ops s0 (fuel + 1) listed s Q := fun hfz n0 h1 h2 one n a w hst hS => by
  obtain ⟨s', hs'⟩ := Option.isSome_iff_exists.1 h
  rw [hs'] at hK
  simp only [Option.getD_some] at hK
  unfold mkfP at hs'
  split at hs' <;> try (cases hs'; done)
  rename_i f u v d hA
  cases hl : opAt ops i with
  | nil => rw [hl] at hA; cases hA
  | cons o rest =>
    rw [hl] at hA
    simp only [mkfA] at hA
    split at hA <;> try (cases hA; done)
    rename_i f' fi ca ho hg
    split at hA <;> try (cases hA; done)
    rename_i u' v' hu hv
    simp only [Option.some.injEq, Prod.mk.injEq] at hA
    obtain ⟨rfl, rfl, rfl, rfl⟩ := hA
    simp only [takB, Bool.and_eq_true] at hb
    have hH : Holds a [] := fun x hx => by cases hx
    obtain ⟨e1, k1⟩ := evl_sound hst.env hH hu
    obtain ⟨e2, k2⟩ := evl_sound hst.env hH hv
    have hrun : ∀ w1, (execOp a.eval o).run P w1 = .ok (.value (.func (.func f') (u'.map (AV.c n)).toArray (v'.map (AV.c n)).toArray)) w1 := fun w1 => by
      have h1 : fi.map a.eval = (u'.map (AV.c n)).toArray := by apply Array.ext'; simpa using e1
      have h2 : ca.map a.eval = (v'.map (AV.c n)).toArray := by apply Array.ext'; simpa using e2
      unfold execOp
      rw [ho]
      simp only [h1, h2]
      rfl
    have hadd : HSat (cxAt cx n0 s0.nx) (upd n s.nx (.func (.func f') (u'.map (AV.c n)).toArray (v'.map (AV.c n)).toArray)) (s.add (.clo f' u' v')) w := by
      refine hst.heap.add (Below.refl _ w) rfl ?_ ⟨k1, k2⟩ (fun g hg => (by cases hg)) (fun g hg => (by cases hg))
      simp only [HE.sat]
      rw [List.map_congr_left fun x hx => AV.c_congr (k1 x hx) (upd_lt n s.nx _), List.map_congr_left fun x hx => AV.c_congr (k2 x hx) (upd_lt n s.nx _)]
    have hsat := put_sat (env_add hst (upd_lt n s.nx _) hadd) hs' (x := .func (.func f') (u'.map (AV.c n)).toArray (v'.map (AV.c n)).toArray) (fun _ => ⟨by simp only [AV.c, AC.c, upd_same], Nat.lt_succ_self _⟩) (fun hn => absurd (fun x hx => by cases hx) hn)
    have hfz' : Fz s0 s' := by
      have hsame := put_same hs'
      have := Fz.ext (s' := s.add (.clo f' u' v')) 1 hfz rfl (by simp [AS.add, idsIn]) (Nat.ble_eq_true_of_le (Nat.le_succ _)) h4
      exact this.same hsame.1 hsame.2.1
    have hQp : ∀ c a w, PN cx Q (.panic c) (a.put o.dst (.func (.func f') (u'.map (AV.c n)).toArray (v'.map (AV.c n)).toArray)) w → PN cx Q (.panic c) a w := fun c a w h => by cases h.1
    exact wpAnyH_take (opAt_cons hl) hs hb.1 hb.2 hQp (.inl ⟨wanted_none (ops := ops) hg, fun w' _ => hrun w'⟩) hS (hK hfz' n0 h1 h2 one _ _ w hsat hS)
def NG (Q : Exit → AS → Prop) : Exit → AS → Prop
  | .goto _, _ => False
  | e, s => Q e s
theorem stepR_scope {b : Frame} {a : Act} {k : List Item} {cs : List Frame} {w : World} {c : Code} : step P (lone (b.atR a (.code (.scope c) :: k)) cs w) = .next (lone (b.atR a (.code c :: .inScope c :: k)) cs w) :=
  step_lone_go (by simp [stepG, stepG.exec, Frame.atR])
theorem stepR_inScope {b : Frame} {a : Act} {k : List Item} {cs : List Frame} {w : World} {c : Code} : step P (lone (b.atR a (.inScope c :: k)) cs w) = .next (lone (b.atR a k) cs w) :=
  step_lone_go (by simp [stepG, stepG.exec, Frame.atR])
theorem WP_scope {c : Code} (h : WP P cx s c (NG Q)) : WP P cx s (.scope c) Q := fun r m ht n a w hs b k cs hro hb hr => by
  have h0 : (lone (b.atR a (.code (.scope c) :: k)) cs w).fenced P (Fn r) := fenced_calm hb hr rfl
  obtain ⟨e, a₁, w₁, ⟨n1, s1, hq, hs1⟩, harr⟩ := h r m ht n a w hs b (.inScope c :: k) cs hro hb hr
  cases e with
  | normal => exact ⟨.normal, a₁, w₁, ⟨n1, s1, hq, hs1⟩, .head h0 stepR_scope (StepsIn.trans harr (.one (fenced_calm hb hr rfl) stepR_inScope))⟩
  | exit id => exact ⟨_, a₁, w₁, ⟨n1, s1, hq, hs1⟩, .of_steps (.one h0 stepR_scope) ⟨fun k' hk => harr.1 k' (by simp [exitTo, hk]), fun hr' hk => by
      obtain ⟨k₁, h1, h2⟩ := harr.2 hr' (by simp [exitTo, hk]); exact ⟨k₁, h1, h2⟩⟩⟩
  | goto l => exact hq.elim
  | ret => exact ⟨_, a₁, w₁, ⟨n1, s1, hq, hs1⟩, .of_steps (.one h0 stepR_scope) harr⟩
  | panic ch => exact ⟨_, a₁, w₁, ⟨n1, s1, hq, hs1⟩, .of_steps (.one h0 stepR_scope) harr⟩
  | outgrown => exact ⟨_, a₁, w₁, ⟨n1, s1, hq, hs1⟩, .of_steps (.one h0 stepR_scope) harr⟩
end
end Go.Proofs.YtamimgmoomcipaaDoor.Eng
namespace Go.Proofs.YtamimgmoomcipaaDoor.Eng
open Go Go.RowKit
set_option linter.unusedVariables false
set_option linter.unusedSimpArgs false
def AC.ren (f : Nat → Nat) : AC → AC
  | .p id o => .p (f id) o
  | .pi id i sz o => .pi (f id) i sz o
  | .ep id i sz o => .ep (f id) i sz o
  | .ref id => .ref (f id)
  | .sb id o sz l h m => .sb (f id) o sz l h m
  | c => c
def renL (f : Nat → Nat) : List AC → List AC
  | [] => []
  | c :: r => c.ren f :: renL f r
def renP (f : Nat → Nat) : List (Bool × List AC) → List (Bool × List AC)
  | [] => []
  | x :: r => (x.1, renL f x.2) :: renP f r
def AV.ren (f : Nat → Nat) : AV → AV
  | .s c => .s (c.ren f)
  | .g cs => .g (renL f cs)
  | .t vs => .t (renP f vs)
def renV (f : Nat → Nat) : List AV → List AV
  | [] => []
  | v :: r => v.ren f :: renV f r
def HE.ren (f : Nat → Nat) : HE → HE
  | .box ty cs => .box ty (renL f cs)
  | .lit e m cs => .lit e m (renL f cs)
  | .clo k u v => .clo k (renV f u) (renV f v)
  | .sl kd e sz l enc z => .sl kd e sz l enc z
  | .pf F G => .pf F G
  | .jf F G => .jf F G
  | .ob b o => .ob b o
theorem AC.ren_c (f : Nat → Nat) (n : Vn) (c : AC) : (c.ren f).c n = c.c (fun id => n (f id)) := by cases c <;> rfl
theorem renL_c (f : Nat → Nat) (n : Vn) (cs : List AC) : (renL f cs).map (AC.c n) = cs.map (AC.c fun id => n (f id)) := by
  induction cs with
  | nil => rfl
  | cons c r ih => simp only [renL, List.map_cons, ih, AC.ren_c]
theorem part1_ren (f : Nat → Nat) (n : Vn) (x : Bool × List AC) : part1 n (x.1, renL f x.2) = part1 (fun id => n (f id)) x := by
  obtain ⟨b, cs⟩ := x
  cases b
  · match cs with
    | [] => rfl
    | [c] => exact AC.ren_c f n c
    | _ :: _ :: _ => rfl
  · simp only [part1, cellsV, renL_c]
theorem AV.ren_c (f : Nat → Nat) (n : Vn) (v : AV) : (v.ren f).c n = v.c (fun id => n (f id)) := by
  cases v with
  | s c => exact AC.ren_c f n c
  | g cs => simp only [AV.ren, AV.c, cellsV, renL_c]
  | t vs =>
    simp only [AV.ren, AV.c]
    congr 2
    induction vs with
    | nil => rfl
    | cons x r ih => simp only [renP, List.map_cons, ih, part1_ren]
theorem renV_c (f : Nat → Nat) (n : Vn) (l : List AV) : (renV f l).map (AV.c n) = l.map (AV.c fun id => n (f id)) := by
  induction l with
  | nil => rfl
  | cons v r ih => simp only [renV, List.map_cons, ih, AV.ren_c]
theorem HE.ren_mut (f : Nat → Nat) (e : HE) : (e.ren f).mut = e.mut := by cases e <;> rfl
theorem HE.ren_foot (f : Nat → Nat) (e : HE) (x : Value) : (e.ren f).foot x = e.foot x := by
  cases e with
  | sl kd e sz l enc z => cases kd <;> rfl
  | _ => rfl
theorem HE.ren_sat (f : Nat → Nat) (n : Vn) (ok : Nat → Prop) (w : World) (x : Value) (e : HE) (h : (e.ren f).sat n ok w x) : e.sat (fun id => n (f id)) ok w x := by
  cases e with
  | box ty cs => simp only [HE.ren, HE.sat, cellsV, renL_c] at h; exact h
  | lit e m cs => simp only [HE.ren, HE.sat, cellsV, renL_c] at h; exact h
  | clo k u v => simp only [HE.ren, HE.sat, renV_c] at h; exact h
  | sl kd e sz l enc z => cases kd <;> exact h
  | pf F G => exact h
  | jf F G => exact h
  | ob b o => exact h
def rnm : List (Nat × Nat) → Nat → Nat
  | [], i => i
  | x :: r, i => bif Nat.beq x.1 i then x.2 else rnm r i
def inj : List (Nat × HE) → (Nat → Nat) → Bool
  | [], _ => true
  | x :: r, f => !(r.any fun y => Nat.beq (f x.1) (f y.1)) && inj r f
theorem inj_spec {l : List (Nat × HE)} {f : Nat → Nat} (h : inj l f = true) : l.Pairwise fun x y => f x.1 ≠ f y.1 := by
  induction l with
  | nil => exact List.Pairwise.nil
  | cons y r ih =>
    simp only [inj, Bool.and_eq_true, Bool.not_eq_true'] at h
    refine List.pairwise_cons.2 ⟨fun x hx e => ?_, ih h.2⟩
    have := List.any_eq_false.1 h.1 x hx
    rw [e, Nat.beq_refl] at this; exact this rfl
def heOks (s : AS) : List (Nat × HE) → Bool
  | [] => true
  | x :: r => heOk s x.2 && Nat.ble (x.1 + 1) s.nx && heOks s r
theorem heOks_spec {s : AS} {l : List (Nat × HE)} (h : heOks s l = true) : ∀ x ∈ l, x.2.ok s ∧ x.1 < s.nx := by
  induction l with
  | nil => intro x hx; cases hx
  | cons y r ih =>
    simp only [heOks, Bool.and_eq_true] at h
    intro x hx
    rcases List.mem_cons.1 hx with rfl | hx
    · exact ⟨heOk_sound (Nat.le_refl _) h.1.1, Nat.le_of_ble_eq_true h.1.2⟩
    · exact ih h.2 x hx
def RenH (f : Nat → Nat) (hp : List (Nat × HE)) : List (Nat × HE) → Prop
  | [] => True
  | x :: r => fnd hp (f x.1) = some (x.2.ren f) ∧ RenH f hp r
theorem RenH.all {f : Nat → Nat} {hp l : List (Nat × HE)} (h : RenH f hp l) : ∀ x ∈ l, fnd hp (f x.1) = some (x.2.ren f) := by
  induction l with
  | nil => intro x hx; cases hx
  | cons y r ih =>
    intro x hx
    rcases List.mem_cons.1 hx with rfl | hx
    · exact h.1
    · exact ih h.2 x hx
def RenE (f : Nat → Nat) (env : List (Nat × List (Nat × Bool) × AV)) (s : AS) : List (Nat × List (Nat × Bool) × AV) → Prop
  | [] => True
  | x :: r => look env x.1 = some ([], x.2.2.ren f) ∧ x.2.1 = [] ∧ okB s x.2.2 = true ∧ RenE f env s r
theorem RenE.all {f : Nat → Nat} {env l : List (Nat × List (Nat × Bool) × AV)} {s : AS} (h : RenE f env s l) : ∀ x ∈ l, look env x.1 = some ([], x.2.2.ren f) ∧ x.2.1 = [] ∧ okB s x.2.2 = true := by
  induction l with
  | nil => intro x hx; cases hx
  | cons y r ih =>
    intro x hx
    rcases List.mem_cons.1 hx with rfl | hx
    · exact ⟨h.1, h.2.1, h.2.2.1⟩
    · exact ih h.2.2.2 x hx
def rnmOk (m : Nat) : List (Nat × Nat) → Bool
  | [] => true
  | x :: r => Nat.ble m x.1 && rnmOk m r
theorem rnm_id {m : Nat} {rs : List (Nat × Nat)} (h : rnmOk m rs = true) : ∀ id, id < m → rnm rs id = id := by
  induction rs with
  | nil => intro id _; rfl
  | cons x r ih =>
    simp only [rnmOk, Bool.and_eq_true] at h
    intro id hid
    have := Nat.le_of_ble_eq_true h.1
    have hb : Nat.beq x.1 id = false := by
      rcases hb : Nat.beq x.1 id with _ | _
      · rfl
      · have := Nat.eq_of_beq_eq_true hb; omega
    simp only [rnm, hb, cond_false]
    exact ih h.2 id hid
section
variable {P : Program} {cx : Cx} {s s2 : AS} {Q : Exit → AS → Prop}
theorem HSat.ren {n : Vn} {w : World} (h : HSat cx n s w) (rs : List (Nat × Nat)) (h1 : RenH (rnm rs) s.hp s2.hp) (hi : inj s2.hp (rnm rs) = true) (ho : heOks s2 s2.hp = true) (hm : ∀ id, id < cx.m0 → rnm rs id = id) (hm0 : cx.m0 ≤ s2.nx) :
    HSat cx (fun id => n (rnm rs id)) s2 w := by
  have hall := h1.all
  have hos := heOks_spec ho
  refine ⟨h.fr, fun id hid => by show n (rnm rs id) = _; rw [hm id hid]; exact h.ini id hid, hm0, fun id => h.one _, fun x hx => HE.ren_sat _ _ _ _ _ _ (h.ents _ (fnd_mem (hall x hx))), fun x hx => (hos x hx).1, ?_, fun x hx g hg => h.lt _ (fnd_mem (hall x hx)) g (by rw [HE.ren_foot]; exact hg), fun x hx => (hos x hx).2⟩
  refine (inj_spec hi).imp_of_mem fun {x y} hx hy hne hmut g hg hgy => ?_
  have hsym : ∀ (x y : Nat × HE), Sep n x y → Sep n y x := fun x y h hm g h1 h2 => h hm.symm g h2 h1
  refine pw_mem hsym h.sep (fnd_mem (hall x hx)) (fnd_mem (hall y hy)) (fun e => hne (congrArg (·.1) e)) ?_ g ?_ ?_
  · simp only [HE.ren_mut]; exact hmut
  · simp only [HE.ren_foot]; exact hg
  · simp only [HE.ren_foot]; exact hgy
theorem Le_ren (rs : List (Nat × Nat)) (h1 : RenH (rnm rs) s.hp s2.hp) (h2 : RenE (rnm rs) s.env s2 s2.env) (hi : inj s2.hp (rnm rs) = true) (ho : heOks s2 s2.hp = true) (hm : ∀ id, id < cx.m0 → rnm rs id = id) (hm0 : cx.m0 ≤ s2.nx) (hnt : s2.nt = s.nt) (hdf : s2.df = s.df) : Le cx s s2 := fun n a w hs => by
  refine ⟨fun id => n (rnm rs id), hs.heap.ren rs h1 hi ho hm hm0, by rw [hnt]; exact hs.size, fun x hx => ?_, by rw [hdf]; exact hs.defers⟩
  obtain ⟨e1, e2, e3⟩ := h2.all x hx
  have he := hs.env _ (look_mem e1)
  refine ⟨by rw [hnt]; exact he.lt, fun _ => ⟨?_, okB_sound e3⟩, fun hn => absurd (by rw [e2]; intro z hz; cases hz) hn⟩
  have := he.yes (fun z hz => by cases hz)
  rw [this.1]
  exact AV.ren_c _ _ _
end
end Go.Proofs.YtamimgmoomcipaaDoor.Eng
namespace Go.Proofs.YtamimgmoomcipaaDoor.Eng
open Go Go.RowKit
set_option linter.unusedVariables false
set_option linter.unusedSimpArgs false
section
variable {P : Program} {tt : TT} {cx : Cx} {s s' : AS} {Q : Exit → AS → Prop} {ops : Array Oper} {l : List Oper}
theorem WP_fact {c : Code} {p : Prop} (hp : ∀ n a w, Sat cx n s a w → p) (h : p → WP P cx s c Q) : WP P cx s c Q := fun r m ht n a w hs => h (hp n a w hs) r m ht n a w hs
theorem more_ext (k : Nat) {s1 : AS} (h1 : s1.hp.drop k = s.hp) (h2 : idsIn s.nx (s1.hp.take k) = true) (h3 : Nat.ble s.nx s1.nx = true) : More s s1 := by
  refine ⟨Nat.le_of_ble_eq_true h3, fun id hid e he => ⟨e, ?_, Nat.le_refl _⟩⟩
  have key : ∀ (l r : List (Nat × HE)), idsIn s.nx l = true → fnd (l ++ r) id = fnd r id := fun l r => by
    induction l with
    | nil => intro _; rfl
    | cons x l ih =>
      intro h
      simp only [idsIn, Bool.and_eq_true] at h
      have := Nat.le_of_ble_eq_true h.1
      rw [List.cons_append, fnd_cons_ne (by omega), ih h.2]
  rw [← List.take_append_drop k s1.hp, key _ _ h2, h1] at he
  exact he
theorem CALLE {σ : Type} (k : FuncId) (vs : List AV) (s1 : σ → AS) (h : (callA ops s l).map (fun x => (x.1, x.2.1, x.2.2.2.2)) = some (k, vs, [])) (hgo : goes P k) (he : ∀ x, (s1 x).env = [] ∧ (s1 x).nt = s.nt ∧ (s1 x).df = s.df)
    (hcall : ∀ n w, HSat cx n s w → Calls P k (vs.map (AV.c n)).toArray w fun e w' => ∃ x n', (∃ v, e = .returned v) ∧ HSat cx n' (s1 x) w') (hK : ∀ x, WPO P cx ops l.tail (s1 x) Q) : WPO P cx ops l s Q := by
  obtain ⟨⟨k', vs', G', d, T⟩, hr', he'⟩ := Option.map_eq_some_iff.1 h
  simp only [Prod.mk.injEq] at he'
  obtain ⟨rfl, rfl, rfl⟩ := he'
  obtain ⟨o, rest, c, x, v, u, cp, vs'', rfl, ho, hg, hc, hv, ht, hvs, rfl, _, hd⟩ := callA_spec hr'
  intro n a w hs
  have hgt := gTag_sound hs hg
  have hH : Holds a [] := fun x hx => by cases hx
  have hrun := call_run hs.env hs.heap hH ho hc hv ht hvs hgo
  have hca := hcall n w hs.heap
  unfold wpList
  rw [if_pos (hgt.2 hH)]
  left
  unfold Oper.wp
  rw [hrun]
  refine hca.mono fun e w' ⟨x, n', ⟨v, he'⟩, hh'⟩ => ?_
  subst he'
  show wpList P ops (Post cx Q) rest (a.put o.dst v) w'
  refine hK x n' _ w' ⟨hh', by rw [(he x).2.1, ← hs.size]; cases o.dst <;> simp [Act.put], fun y hy => ?_, by rw [(he x).2.2, ← hs.defers]; cases o.dst <;> rfl⟩
  rw [(he x).1] at hy
  cases hy
end
end Go.Proofs.YtamimgmoomcipaaDoor.Eng
namespace Go.Proofs.YtamimgmoomcipaaDoor.Eng
open Go Go.RowKit
set_option linter.unusedVariables false
set_option linter.unusedSimpArgs false
section
variable {P : Program} {tt : TT} {cx : Cx} {s s' : AS} {Q : Exit → AS → Prop} {ops : Array Oper} {l : List Oper}
def envIn (m : Nat) (s : AS) : List (Nat × List (Nat × Bool) × AV) → Prop
  | [] => True
  | x :: r => look s.env x.1 = some ([], x.2.2) ∧ x.2.1 = [] ∧ okB ⟨0, [], [], m, []⟩ x.2.2 = true ∧ envIn m s r
theorem envIn.all {m : Nat} {l : List (Nat × List (Nat × Bool) × AV)} (h : envIn m s l) : ∀ x ∈ l, look s.env x.1 = some ([], x.2.2) ∧ x.2.1 = [] ∧ okB ⟨0, [], [], m, []⟩ x.2.2 = true := by
  induction l with
  | nil => intro x hx; cases hx
  | cons y r ih =>
    intro x hx
    rcases List.mem_cons.1 hx with rfl | hx
    · exact ⟨h.1, h.2.1, h.2.2.1⟩
    · exact ih h.2.2.2 x hx
theorem CALLF {σ : Type} (k : FuncId) (vs : List AV) (m : Nat) (d : Nat) (s1 : σ → AS) (h : (callA ops s l).map (fun x => (x.1, x.2.1, x.2.2.2.1, x.2.2.2.2)) = some (k, vs, some d, [])) (hgo : goes P k) (hdn : ∀ x, (look (s1 x).env d).isNone = true)
    (he : ∀ x, envIn m s (s1 x).env ∧ (s1 x).nt = s.nt ∧ (s1 x).df = s.df ∧ Nat.ble m (s1 x).nx = true)
    (hcall : ∀ n w, HSat cx n s w → Calls P k (vs.map (AV.c n)).toArray w fun e w' => ∃ x n', (∃ v, e = .returned v) ∧ (∀ id, id < m → n' id = n id) ∧ HSat cx n' (s1 x) w') (hK : ∀ x, WPO P cx ops l.tail (s1 x) Q) : WPO P cx ops l s Q := by
  obtain ⟨⟨k', vs', G', d', T⟩, hr', he'⟩ := Option.map_eq_some_iff.1 h
  simp only [Prod.mk.injEq] at he'
  obtain ⟨rfl, rfl, rfl, rfl⟩ := he'
  obtain ⟨o, rest, c, x, v, u, cp, vs'', rfl, ho, hg, hc, hv, ht, hvs, rfl, _, hd⟩ := callA_spec hr'
  intro n a w hs
  have hgt := gTag_sound hs hg
  have hH : Holds a [] := fun x hx => by cases hx
  have hrun := call_run hs.env hs.heap hH ho hc hv ht hvs hgo
  have hca := hcall n w hs.heap
  unfold wpList
  rw [if_pos (hgt.2 hH)]
  left
  unfold Oper.wp
  rw [hrun]
  refine hca.mono fun e w' ⟨x, n', ⟨v, he'⟩, hag, hh'⟩ => ?_
  subst he'
  obtain ⟨he1, he2, he3, he4⟩ := he x
  refine hK x n' _ w' ⟨hh', by rw [he2, ← hs.size]; cases o.dst <;> simp [Act.put], fun y hy => ?_, by rw [he3, ← hs.defers]; cases o.dst <;> rfl⟩
  obtain ⟨e1, e2, e3⟩ := he1.all y hy
  have hey := hs.env _ (look_mem e1)
  have hne : y.1 ≠ d := fun e => by
    have := hdn x
    have hl : ∀ (l : List (Nat × List (Nat × Bool) × AV)), y ∈ l → (look l y.1).isSome = true := fun l => by
      induction l with
      | nil => intro h; cases h
      | cons z r ih =>
        intro h
        simp only [look]
        rcases hb : Nat.beq z.1 y.1 with _ | _
        · rcases List.mem_cons.1 h with rfl | h
          · rw [Nat.beq_refl] at hb; cases hb
          · exact ih h
        · rfl
    have h2 := hl _ hy
    rw [e] at h2
    cases hlk : look (s1 x).env d <;> rw [hlk] at this h2
    · cases h2
    · cases this
  refine ⟨by rw [he2]; exact hey.lt, fun _ => ⟨?_, okB_sound (okB_nx (Nat.le_of_ble_eq_true he4) e3)⟩, fun hn => absurd (by rw [e2]; intro z hz; cases hz) hn⟩
  have := hey.yes (fun z hz => by cases hz)
  rw [← hd, getD_put_ne hne, this.1]
  exact (AV.c_congr (okB_sound (s := ⟨0, [], [], m, []⟩) e3) hag).symm
abbrev jAnd (F F' : World → Prop) (G G' : Nat → Prop) : HE := .jf (fun w => F w ∧ F' w) (fun g => G g ∨ G' g)
structure Apart (F F' : World → Prop) (G G' : Nat → Prop) : Prop where
  dis : ∀ g, G g → ¬ G' g
  st : ∀ w1 w2 : World, F w1 → (∀ g, G g → w2.heap[g]? = w1.heap[g]?) → F w2
  st' : ∀ w1 w2 : World, F' w1 → (∀ g, G' g → w2.heap[g]? = w1.heap[g]?) → F' w2
theorem apart_of {i j : Nat} {F F' : World → Prop} {G G' : Nat → Prop} (hi : fnd s.hp i = some (.jf F G)) (hj : fnd s.hp j = some (.jf F' G')) (hne : Nat.beq i j = false) : ∀ n a w, Sat cx n s a w → Apart F F' G G' := fun n a w hs => by
  have hsym : ∀ (x y : Nat × HE), Sep n x y → Sep n y x := fun x y h hm g h1 h2 => h hm.symm g h2 h1
  refine ⟨fun g hg hg' => pw_mem hsym hs.heap.sep (fnd_mem hi) (fnd_mem hj) (fun e => ?_) (.inl rfl) g hg hg', (hs.heap.ents _ (fnd_mem hi)).2.2, (hs.heap.ents _ (fnd_mem hj)).2.2⟩
  have hij : i = j := congrArg (·.1) e
  rw [hij, Nat.beq_refl] at hne; cases hne
theorem Le_jAnd {i j : Nat} {F F' : World → Prop} {G G' : Nat → Prop} (hi : fnd s.hp i = some (.jf F G)) (hj : fnd s.hp j = some (.jf F' G')) (hne : Nat.beq i j = false) : Le cx s { s with hp := (s.nx, jAnd F F' G G') :: rem (rem s.hp i) j, nx := s.nx + 1 } := fun n a w hs => by
  have h1 := hs.heap.ents _ (fnd_mem hi)
  have h2 := hs.heap.ents _ (fnd_mem hj)
  have hs1 : Sat cx n { s with hp := rem s.hp i } a w := env_hp hs (rem_more s i) (hs.heap.rem i)
  have hs2 : Sat cx n { s with hp := rem (rem s.hp i) j } a w := env_hp hs1 (rem_more { s with hp := rem s.hp i } j) (hs1.heap.rem j)
  refine ⟨upd n s.nx .nilFunc, env_add hs2 (upd_lt n s.nx _) (hs2.heap.add (e := jAnd F F' G G') (v := .nilFunc) (Below.refl _ w) rfl ⟨⟨h1.1, h2.1⟩, fun g hg => hg.elim (h1.2.1 g) (h2.2.1 g), fun w1 w2 h hw => ⟨h1.2.2 w1 w2 h.1 fun g hg => hw g (.inl hg), h2.2.2 w1 w2 h.2 fun g hg => hw g (.inr hg)⟩⟩ trivial
    (fun g hg => hg.elim (hs.heap.lt _ (fnd_mem hi) g) (hs.heap.lt _ (fnd_mem hj) g)) (fun g hg => .inr fun x hx _ hgx => ?_))⟩
  have hx1 : x ∈ rem s.hp i := (rem_sub _ j).subset hx
  have hx2 : x ∈ s.hp := (rem_sub s.hp i).subset hx1
  have hsym : ∀ (x y : Nat × HE), Sep n x y → Sep n y x := fun x y h hm g h1 h2 => h hm.symm g h2 h1
  rcases hg with hg | hg
  · exact pw_mem hsym hs.heap.sep hx2 (fnd_mem hi) (fun e => rem_ne hx1 (by rw [e])) (.inr rfl) g hgx hg
  · exact pw_mem hsym hs.heap.sep hx2 (fnd_mem hj) (fun e => rem_ne hx (by rw [e])) (.inr rfl) g hgx hg
theorem Le_jOut {j : Nat} {F F' : World → Prop} {G G' : Nat → Prop} (hj : fnd s.hp j = some (jAnd F F' G G')) (hap : Apart F F' G G') : Le cx s { s with hp := (s.nx + 1, .jf F G) :: (s.nx, .jf F' G') :: rem s.hp j, nx := s.nx + 2 } := fun n a w hs => by
  have h1 := hs.heap.ents _ (fnd_mem hj)
  have hs1 : Sat cx n { s with hp := rem s.hp j } a w := env_hp hs (rem_more s j) (hs.heap.rem j)
  have hsym : ∀ (x y : Nat × HE), Sep n x y → Sep n y x := fun x y h hm g h1 h2 => h hm.symm g h2 h1
  have hno : ∀ x ∈ rem s.hp j, ∀ g, (G g ∨ G' g) → ¬ x.2.foot (n x.1) g := fun x hx g hg hgx => pw_mem hsym hs.heap.sep ((rem_sub s.hp j).subset hx) (fnd_mem hj) (fun e => rem_ne hx (by rw [e])) (.inr rfl) g hgx hg
  have hs2 := env_add hs1 (upd_lt n s.nx .nilFunc) (hs1.heap.add (e := .jf F' G') (v := .nilFunc) (Below.refl _ w) rfl ⟨h1.1.2, fun g hg => h1.2.1 g (.inr hg), hap.st'⟩ trivial (fun g hg => hs.heap.lt _ (fnd_mem hj) g (.inr hg)) (fun g hg => .inr fun x hx _ => hno x hx g (.inr hg)))
  refine ⟨_, env_add hs2 (upd_lt _ (s.nx + 1) .nilFunc) (hs2.heap.add (e := .jf F G) (v := .nilFunc) (Below.refl _ w) rfl ⟨h1.1.1, fun g hg => h1.2.1 g (.inl hg), hap.st⟩ trivial (fun g hg => hs.heap.lt _ (fnd_mem hj) g (.inl hg)) (fun g hg => .inr fun x hx _ hgx => ?_))⟩
  rcases List.mem_cons.1 hx with rfl | hx
  · exact hap.dis g hg hgx
  · have : x.2.foot (n x.1) g := by
      have hlt : x.1 < s.nx := hs1.heap.ids x hx
      rw [← upd_lt n s.nx .nilFunc x.1 hlt]; exact hgx
    exact hno x hx g (.inl hg) this
end
end Go.Proofs.YtamimgmoomcipaaDoor.Eng
namespace Go.Proofs.YtamimgmoomcipaaDoor.Fw
open Go Go.RowKit Go.Proofs.YtamimgmoomcipaaDoor.Eng
set_option linter.unusedVariables false
set_option linter.unusedSimpArgs false
def okC (b : Book) (k : Nat) (but : List Int) (c : Int × Int) : Bool := decide (c.1 ≤ b.hear.hi) && rightF b k c.1 c.2 but
def rowC (b : Book) (k : Nat) (but : List Int) (i j : Nat) : List (Int × Int) := ((List.range j).map fun q : Nat => ((b.ships.getD k zShip).aw.lo + i, (b.ships.getD k zShip).sp.lo + q)).filter (okC b k but)
def nA (b : Book) (k : Nat) : Nat := ((b.ships.getD k zShip).aw.hi - (b.ships.getD k zShip).aw.lo + 1).toNat
def nS (b : Book) (k : Nat) : Nat := ((b.ships.getD k zShip).sp.hi - (b.ships.getD k zShip).sp.lo + 1).toNat
def preC (b : Book) (k : Nat) (but : List Int) (i : Nat) : List (Int × Int) := (List.range i).flatMap fun q => rowC b k but q (nS b k)
def coursesF (b : Book) (k : Nat) (but : List Int) : List (Int × Int) := preC b k but (nA b k)
theorem rowC_snoc (b : Book) (k : Nat) (but : List Int) (i j : Nat) : rowC b k but i (j + 1) = rowC b k but i j ++ (if okC b k but ((b.ships.getD k zShip).aw.lo + i, (b.ships.getD k zShip).sp.lo + j) then [((b.ships.getD k zShip).aw.lo + (i : Int), (b.ships.getD k zShip).sp.lo + (j : Int))] else []) := by
  unfold rowC
  rw [List.range_succ, List.map_append, List.filter_append]
  congr 1
  simp only [List.map_cons, List.map_nil, List.filter_cons, List.filter_nil]
theorem rowC_prefix (b : Book) (k : Nat) (but : List Int) (i : Nat) {j j' : Nat} (h : j ≤ j') : rowC b k but i j <+: rowC b k but i j' := by
  unfold rowC
  refine List.IsPrefix.filter _ (List.IsPrefix.map _ ?_)
  exact List.prefix_iff_eq_take.2 (by rw [List.length_range, List.take_range]; congr 1; omega)
theorem preC_succ (b : Book) (k : Nat) (but : List Int) (i : Nat) : preC b k but (i + 1) = preC b k but i ++ rowC b k but i (nS b k) := by
  unfold preC
  rw [List.range_succ, List.flatMap_append]
  simp
theorem preC_prefix (b : Book) (k : Nat) (but : List Int) {i i' : Nat} (h : i ≤ i') : preC b k but i <+: preC b k but i' := by
  induction i' with
  | zero => obtain rfl : i = 0 := by omega
            exact List.prefix_refl _
  | succ m ih =>
    by_cases e : i = m + 1
    · subst e; exact List.prefix_refl _
    · rw [preC_succ]; exact (ih (by omega)).trans (List.prefix_append _ _)
theorem courses_prefix {b : Book} {k : Nat} {but : List Int} {i j : Nat} (hi : i < nA b k) (hj : j < nS b k) (h : okC b k but ((b.ships.getD k zShip).aw.lo + i, (b.ships.getD k zShip).sp.lo + j) = true) :
    (preC b k but i ++ rowC b k but i j) ++ [((b.ships.getD k zShip).aw.lo + (i : Int), (b.ships.getD k zShip).sp.lo + (j : Int))] <+: coursesF b k but := by
  have h1 : (preC b k but i ++ rowC b k but i j) ++ [((b.ships.getD k zShip).aw.lo + (i : Int), (b.ships.getD k zShip).sp.lo + (j : Int))] = preC b k but i ++ rowC b k but i (j + 1) := by
    rw [rowC_snoc, if_pos h, List.append_assoc]
  rw [h1]
  refine List.IsPrefix.trans ?_ (preC_prefix b k but (i := i + 1) (by omega))
  rw [preC_succ]
  exact List.prefix_append_right_inj _ |>.2 (rowC_prefix b k but i (by omega))
theorem okC_of {b : Book} {k : Nat} {but : List Int} {a s : Int} (h : ((a == 0 && s == 0) || decide (a > b.hear.hi) || !rightF b k a s but) = false) : okC b k but (a, s) = true := by
  simp only [Bool.or_eq_false_iff, Bool.not_eq_false', decide_eq_false_iff_not] at h
  simp only [okC, Bool.and_eq_true, decide_eq_true_eq]
  exact ⟨by omega, h.2⟩
theorem okC_not {b : Book} {k : Nat} {but : List Int} {a s : Int} (h : ((a == 0 && s == 0) || decide (a > b.hear.hi) || !rightF b k a s but) = true) (ha : 1 ≤ a) : ¬ okC b k but (a, s) = true := by
  intro ho
  simp only [okC, Bool.and_eq_true, decide_eq_true_eq] at ho
  rw [ho.2] at h
  simp only [Bool.or_eq_true, Bool.and_eq_true, beq_iff_eq, decide_eq_true_eq, Bool.not_true, Bool.false_eq_true, or_false] at h
  omega
def encC (c : Int × Int) : Array Value := #[.agg #[iv c.1, iv c.2]]
abbrev bookK (b : Book) : List AC := [.ref 0, ai b.hear.lo, ai b.hear.hi, ai b.br, ai b.cr, ai b.sl, .ref 1, .ref 8]
def ekC (c : Int × Int) : Value := pairV c.1 c.2
def exC (b : Book) (k : Nat) (c : Int × Int) : Value := .agg (arrBV 201 (nearF b k c.1 c.2))
def MapsAt (b : Book) (but : List Int) (maps : List Nat) (w : World) : Prop := ∀ q, (h : q < maps.length) → w.heap[maps[q]]? = some (.map (ents (coursesF b q but) ekC (exC b q)) (coursesF b q but).length)
theorem MapsAt.stab {b : Book} {but : List Int} {maps : List Nat} {w1 w2 : World} (h : MapsAt b but maps w1) (hw : ∀ g, g ∈ maps → w2.heap[g]? = w1.heap[g]?) : MapsAt b but maps w2 := fun q hq => (hw _ (List.getElem_mem hq)).trans (h q hq)
abbrev cloC : HE := .clo 103 [] [.s (.p 3 0), .s (.p 4 0), .s (.p 5 0), .s (.p 6 0)]
abbrev pfC (b : Book) (but : List Int) (maps : List Nat) : HE := .pf (MapsAt b but maps) (· ∈ maps)
abbrev itC (b : Book) (k : Nat) : List (Nat × HE) := [(14, .box 94 (bookK b)), (15, .box 3 [ai k]), (16, .box 37 [.ref 2])]
abbrev roC (b : Book) (but : List Int) (maps : List Nat) : List (Nat × HE) := [(0, .sl .ro 65 5 b.ships encShip zShip), (1, .sl .ro 70 4 b.sights encSight zSight), (2, .sl .ro 3 1 but encI 0), (7, cloC), (9, pfC b but maps)]
theorem courses_iter (b : Book) (k : Nat) (but : List Int) (maps : List Nat) (hk : k < b.ships.length) (hv : Valid b) : IterOk Tryd.prog 113 [.s (.p 14 0), .s (.p 15 0), .s (.p 16 0)] (itC b k) (roC b but maps) 18 encC (coursesF b k but) := by
  intro cx n w L RF GR J Jx G0 hJ hJx hY hh
  have e : (#[.func (.yield L) #[] #[]] ++ (([.s (.p 14 0), .s (.p 15 0), .s (.p 16 0)] : List AV).map (AV.c n)).toArray : Array Value) = (([.s (.v (.func (.yield L) #[] #[])), .s (.p 14 0), .s (.p 15 0), .s (.p 16 0)] : List AV).map (AV.c n)).toArray := by simp [AV.c, AC.c]
  rw [e]
  have hsh := hv.ship hk
  refine calls_of_WP (cx := ⟨cx.w0, cx.ok, n, 20, true⟩) (n := n) (vs := [.s (.v (.func (.yield L) #[] #[])), .s (.p 14 0), .s (.p 15 0), .s (.p 16 0)]) (hp := (18, .jf (J [] G0) G0) :: (19, .pf RF GR) :: (itC b k ++ roC b but maps)) (nx := 20) tt_ok Tryd.func113 rfl rfl rfl (by kernel_rfl) (hh.top.slots) (vsOk (by kernel_rfl)) ?_
  have hnA : IntKind.i64.wrap (IntKind.i64.wrap ((b.ships.getD k zShip).aw.hi - (b.ships.getD k zShip).aw.lo) + 1) = (nA b k : Int) := by rw [wrapI (x := (b.ships.getD k zShip).aw.hi - (b.ships.getD k zShip).aw.lo) (by omega) (by omega), wrapI (by omega) (by omega)]; unfold nA; omega
  have hnS : IntKind.i64.wrap (IntKind.i64.wrap ((b.ships.getD k zShip).sp.hi - (b.ships.getD k zShip).sp.lo) + 1) = (nS b k : Int) := by rw [wrapI (x := (b.ships.getD k zShip).sp.hi - (b.ships.getD k zShip).sp.lo) (by omega) (by omega), wrapI (by omega) (by omega)]; unfold nS; omega
  refine WP_seq (WP_drawH [] (by kernel_rfl) (by kernel_rfl) ?_)
  refine H_run tt_ok [0, 1, 2, 3] (f' := 7) (by kernel_rfl) (by kernel_rfl) (by kernel_rfl) ?_
  refine H_IX tt_ok 4 (k : Int) b.ships.length [] (by kernel_rfl) (fun _ => ⟨by omega, by omega⟩) (by kernel_rfl) (by kernel_rfl) ?_
  refine H_run tt_ok [5, 6] (f' := 4) (by kernel_rfl) (by kernel_rfl) (by kernel_rfl) ?_
  refine H_mkf 7 (by kernel_rfl) (by kernel_rfl) (by kernel_rfl) (by kernel_rfl) ?_
  refine H_step 8 (by kernel_rfl) (by kernel_rfl) (fun hfz cx' hx1 hx2 => ?_)
  refine WPO_all tt_ok (by kernel_rfl) ?_
  refine ⟨rfl, (hfz.fnds [18, 19, 14, 15, 16, 0, 1, 2, 7, 9] (by kernel_rfl) ⟨by kernel_rfl, by kernel_rfl, by kernel_rfl, by kernel_rfl, by kernel_rfl, by kernel_rfl, by kernel_rfl, by kernel_rfl, by kernel_rfl, by kernel_rfl, trivial⟩ (by kernel_rfl)), ?_⟩
  refine H_step 9 (by kernel_rfl) (by kernel_rfl) (fun hfz cx' hx1 hx2 => ?_)
  refine WPO_all tt_ok (by kernel_rfl) ?_
  refine ⟨rfl, (hfz.fnds [18, 19, 14, 15, 16, 0, 1, 2, 7, 9] (by kernel_rfl) ⟨by kernel_rfl, by kernel_rfl, by kernel_rfl, by kernel_rfl, by kernel_rfl, by kernel_rfl, by kernel_rfl, by kernel_rfl, by kernel_rfl, by kernel_rfl, trivial⟩ (by kernel_rfl)), ?_⟩
  refine H_run tt_ok [10] (f' := 0) (by kernel_rfl) (by kernel_rfl) (by kernel_rfl) ?_
  refine H_done (by kernel_rfl) ?_
  refine WP_seq (WP_region (WPO_all tt_ok (by kernel_rfl) ?_))
  refine WP_block (WP_loop (σ := Int × List (Int × Int) × (Nat → Prop)) (fun zz => ⟨77, [(26, [], .s (.int .i64 zz.1)), (25, [], .s (.int .i64 (IntKind.i64.wrap ((IntKind.i64.wrap ((b.ships.getD k zShip).aw.hi - (b.ships.getD k zShip).aw.lo)) + 1)))), (6, [], .s (.ref 20)), (5, [], .s (.p 21 0)), (0, [], .s (.v (.func (.yield L) #[] #[]))), (1, [], .s (.p 14 0)), (2, [], .s (.p 15 0)), (3, [], .s (.p 16 0))], [(21, .box 65 [.int .i64 (b.ships.getD k zShip).m, .int .i64 (b.ships.getD k zShip).aw.lo, .int .i64 (b.ships.getD k zShip).aw.hi, .int .i64 (b.ships.getD k zShip).sp.lo, .int .i64 (b.ships.getD k zShip).sp.hi]), (20, .clo 114 [.g [.ref 0, .int .i64 b.hear.lo, .int .i64 b.hear.hi, .int .i64 b.br, .int .i64 b.cr, .int .i64 b.sl, .ref 1, .ref 8]] []), (18, .jf (J zz.2.1 zz.2.2) zz.2.2), (19, .pf RF GR), (14, .box 94 [.ref 0, .int .i64 b.hear.lo, .int .i64 b.hear.hi, .int .i64 b.br, .int .i64 b.cr, .int .i64 b.sl, .ref 1, .ref 8]), (15, .box 3 [.int .i64 (k : Int)]), (16, .box 37 [.ref 2]), (0, .sl .ro 65 5 b.ships encShip zShip), (1, .sl .ro 70 4 b.sights encSight zSight), (2, .sl .ro 3 1 but encI 0), (7, cloC), (9, pfC b but maps)], 22, []⟩) (fun zz => ∃ i : Nat, i ≤ nA b k ∧ zz.1 = i ∧ zz.2.1 = preC b k but i) (fun zz => nA b k - zz.1.toNat) (0, [], G0) (⟨0, by omega, rfl, rfl⟩) (Le_sel (ts := [26, 25, 6, 5, 0, 1, 2, 3]) (ids := [21, 20, 18, 19, 14, 15, 16, 0, 1, 2, 7, 9]) (nx := 22) (by kernel_rfl)) ?_)
  rintro ⟨ii, pre, G⟩ hinv
  obtain ⟨i, hi, hii, hpre⟩ := hinv
  simp only at hii hpre
  subst hii
  subst hpre
  refine WP_seq (WP_region (WPO_all tt_ok (by kernel_rfl) ?_))
  refine WP_seq (WP_cond (decide ((i : Int) < (IntKind.i64.wrap ((IntKind.i64.wrap ((b.ships.getD k zShip).aw.hi - (b.ships.getD k zShip).aw.lo)) + 1)))) (by kernel_rfl) (fun hc1 => ?_) (fun hc1 => ?_))
  · have hc1 := of_decide_eq_true hc1
    rw [hnA] at hc1
    have hi : i < nA b k := by omega
    have hiA : (i : Int) ≤ (b.ships.getD k zShip).aw.hi - (b.ships.getD k zShip).aw.lo := by unfold nA at hi; omega
    refine WP_skip ?_
    refine WP_seq (WP_block ?_)
    refine WP_seq (WP_region (WPO_all tt_ok (by kernel_rfl) ?_))
    refine WP_scope ?_
    refine WP_seq (WP_label ?_)
    refine WP_seq (WP_region (WPO_all tt_ok (by kernel_rfl) ?_))
    refine WP_block (WP_loop (σ := Int × List (Int × Int) × (Nat → Prop)) (fun zz => ⟨77, [(37, [], .s (.int .i64 zz.1)), (36, [], .s (.int .i64 (IntKind.i64.wrap ((IntKind.i64.wrap ((b.ships.getD k zShip).sp.hi - (b.ships.getD k zShip).sp.lo)) + 1)))), (7, [], .s (.int .i64 (i : Int))), (26, [], .s (.int .i64 (i : Int))), (25, [], .s (.int .i64 (IntKind.i64.wrap ((IntKind.i64.wrap ((b.ships.getD k zShip).aw.hi - (b.ships.getD k zShip).aw.lo)) + 1)))), (6, [], .s (.ref 20)), (5, [], .s (.p 21 0)), (0, [], .s (.v (.func (.yield L) #[] #[]))), (1, [], .s (.p 14 0)), (2, [], .s (.p 15 0)), (3, [], .s (.p 16 0))], [(21, .box 65 [.int .i64 (b.ships.getD k zShip).m, .int .i64 (b.ships.getD k zShip).aw.lo, .int .i64 (b.ships.getD k zShip).aw.hi, .int .i64 (b.ships.getD k zShip).sp.lo, .int .i64 (b.ships.getD k zShip).sp.hi]), (20, .clo 114 [.g [.ref 0, .int .i64 b.hear.lo, .int .i64 b.hear.hi, .int .i64 b.br, .int .i64 b.cr, .int .i64 b.sl, .ref 1, .ref 8]] []), (18, .jf (J zz.2.1 zz.2.2) zz.2.2), (19, .pf RF GR), (14, .box 94 [.ref 0, .int .i64 b.hear.lo, .int .i64 b.hear.hi, .int .i64 b.br, .int .i64 b.cr, .int .i64 b.sl, .ref 1, .ref 8]), (15, .box 3 [.int .i64 (k : Int)]), (16, .box 37 [.ref 2]), (0, .sl .ro 65 5 b.ships encShip zShip), (1, .sl .ro 70 4 b.sights encSight zSight), (2, .sl .ro 3 1 but encI 0), (7, cloC), (9, pfC b but maps)], 22, []⟩) (fun zz => ∃ j : Nat, j ≤ nS b k ∧ zz.1 = j ∧ zz.2.1 = preC b k but i ++ rowC b k but i j) (fun zz => nS b k - zz.1.toNat) (0, preC b k but i, G) (⟨0, by omega, rfl, by simp [rowC]⟩) (Le_sel (ts := [37, 36, 7, 26, 25, 6, 5, 0, 1, 2, 3]) (ids := [21, 20, 18, 19, 14, 15, 16, 0, 1, 2, 7, 9]) (nx := 22) (by kernel_rfl)) ?_)
    rintro ⟨jj, pre, G⟩ hinv
    obtain ⟨j, hj, hjj, hpre⟩ := hinv
    simp only at hjj hpre
    subst hjj
    subst hpre
    refine WP_seq (WP_region (WPO_all tt_ok (by kernel_rfl) ?_))
    refine WP_seq (WP_cond (decide ((j : Int) < (IntKind.i64.wrap ((IntKind.i64.wrap ((b.ships.getD k zShip).sp.hi - (b.ships.getD k zShip).sp.lo)) + 1)))) (by kernel_rfl) (fun hc2 => ?_) (fun hc2 => ?_))
    · have hc2 := of_decide_eq_true hc2
      rw [hnS] at hc2
      have hj : j < nS b k := by omega
      have hjS : (j : Int) ≤ (b.ships.getD k zShip).sp.hi - (b.ships.getD k zShip).sp.lo := by unfold nS at hj; omega
      refine WP_skip ?_
      refine WP_seq (WP_block ?_)
      refine WP_seq (WP_region (WPO_all tt_ok (by kernel_rfl) ?_))
      refine WP_seq (WP_region (WPO_all tt_ok (by kernel_rfl) ?_))
      refine WP_cut (S1 := ⟨77, [(9, [], .s (.p 22 0)), (37, [], .s (.int .i64 (j : Int))), (36, [], .s (.int .i64 (IntKind.i64.wrap ((IntKind.i64.wrap ((b.ships.getD k zShip).sp.hi - (b.ships.getD k zShip).sp.lo)) + 1)))), (7, [], .s (.int .i64 (i : Int))), (26, [], .s (.int .i64 (i : Int))), (25, [], .s (.int .i64 (IntKind.i64.wrap ((IntKind.i64.wrap ((b.ships.getD k zShip).aw.hi - (b.ships.getD k zShip).aw.lo)) + 1)))), (6, [], .s (.ref 20)), (5, [], .s (.p 21 0)), (0, [], .s (.v (.func (.yield L) #[] #[]))), (1, [], .s (.p 14 0)), (2, [], .s (.p 15 0)), (3, [], .s (.p 16 0))], [(22, .box 102 [.int .i64 (IntKind.i64.wrap ((b.ships.getD k zShip).aw.lo + (i : Int))), .int .i64 (IntKind.i64.wrap ((b.ships.getD k zShip).sp.lo + (j : Int)))]), (21, .box 65 [.int .i64 (b.ships.getD k zShip).m, .int .i64 (b.ships.getD k zShip).aw.lo, .int .i64 (b.ships.getD k zShip).aw.hi, .int .i64 (b.ships.getD k zShip).sp.lo, .int .i64 (b.ships.getD k zShip).sp.hi]), (20, .clo 114 [.g [.ref 0, .int .i64 b.hear.lo, .int .i64 b.hear.hi, .int .i64 b.br, .int .i64 b.cr, .int .i64 b.sl, .ref 1, .ref 8]] []), (18, .jf (J (preC b k but i ++ rowC b k but i j) G) G), (19, .pf RF GR), (14, .box 94 [.ref 0, .int .i64 b.hear.lo, .int .i64 b.hear.hi, .int .i64 b.br, .int .i64 b.cr, .int .i64 b.sl, .ref 1, .ref 8]), (15, .box 3 [.int .i64 (k : Int)]), (16, .box 37 [.ref 2]), (0, .sl .ro 65 5 b.ships encShip zShip), (1, .sl .ro 70 4 b.sights encSight zSight), (2, .sl .ro 3 1 but encI 0), (7, cloC), (9, pfC b but maps)], 23, []⟩) (S2 := ⟨77, [(9, [], .s (.p 22 0)), (37, [], .s (.int .i64 (j : Int))), (36, [], .s (.int .i64 (IntKind.i64.wrap ((IntKind.i64.wrap ((b.ships.getD k zShip).sp.hi - (b.ships.getD k zShip).sp.lo)) + 1)))), (7, [], .s (.int .i64 (i : Int))), (26, [], .s (.int .i64 (i : Int))), (25, [], .s (.int .i64 (IntKind.i64.wrap ((IntKind.i64.wrap ((b.ships.getD k zShip).aw.hi - (b.ships.getD k zShip).aw.lo)) + 1)))), (6, [], .s (.ref 20)), (5, [], .s (.p 21 0)), (0, [], .s (.v (.func (.yield L) #[] #[]))), (1, [], .s (.p 14 0)), (2, [], .s (.p 15 0)), (3, [], .s (.p 16 0))], [(22, .box 102 [.int .i64 ((b.ships.getD k zShip).aw.lo + (i : Int)), .int .i64 ((b.ships.getD k zShip).sp.lo + (j : Int))]), (21, .box 65 [.int .i64 (b.ships.getD k zShip).m, .int .i64 (b.ships.getD k zShip).aw.lo, .int .i64 (b.ships.getD k zShip).aw.hi, .int .i64 (b.ships.getD k zShip).sp.lo, .int .i64 (b.ships.getD k zShip).sp.hi]), (20, .clo 114 [.g [.ref 0, .int .i64 b.hear.lo, .int .i64 b.hear.hi, .int .i64 b.br, .int .i64 b.cr, .int .i64 b.sl, .ref 1, .ref 8]] []), (18, .jf (J (preC b k but i ++ rowC b k but i j) G) G), (19, .pf RF GR), (14, .box 94 [.ref 0, .int .i64 b.hear.lo, .int .i64 b.hear.hi, .int .i64 b.br, .int .i64 b.cr, .int .i64 b.sl, .ref 1, .ref 8]), (15, .box 3 [.int .i64 (k : Int)]), (16, .box 37 [.ref 2]), (0, .sl .ro 65 5 b.ships encShip zShip), (1, .sl .ro 70 4 b.sights encSight zSight), (2, .sl .ro 3 1 but encI 0), (7, cloC), (9, pfC b but maps)], 23, []⟩) (Le_sel (ts := [9, 37, 36, 7, 26, 25, 6, 5, 0, 1, 2, 3]) (ids := [22, 21, 20, 18, 19, 14, 15, 16, 0, 1, 2, 7, 9]) (nx := 23) (by kernel_rfl)) (by rw [wrapI (x := (b.ships.getD k zShip).aw.lo + (i : Int)) (by omega) (by omega), wrapI (x := (b.ships.getD k zShip).sp.lo + (j : Int)) (by omega) (by omega)]) ?_
      refine WP_seq (WP_seq (WP_draw (by kernel_rfl) (by kernel_rfl) ?_))
      refine WPQ_run tt_ok 1 (by kernel_rfl) ?_
      refine QCALL 115 [] (.g [.int .i64 0, .int .i64 0]) [] (by kernel_rfl) (goes_of (by kernel_rfl)) (by kernel_rfl) (by kernel_rfl) (fun _ _ w _ => still_calls w) ?_
      refine QBIN .eql 102 (.tmp 51) (.tmp 52) (.g [.int .i64 ((b.ships.getD k zShip).aw.lo + (i : Int)), .int .i64 ((b.ships.getD k zShip).sp.lo + (j : Int))]) (.g [.int .i64 0, .int .i64 0]) (.s (.bool (((b.ships.getD k zShip).aw.lo + (i : Int)) == 0 && ((b.ships.getD k zShip).sp.lo + (j : Int)) == 0))) [] (by kernel_rfl) (by kernel_rfl) (by kernel_rfl) (fun _ => BinOk_pair (by kernel_rfl) _ _ _ _) ?_
      refine WPQ_run tt_ok 14 (by kernel_rfl) ?_
      refine QCALL 114 [.g [.ref 0, .int .i64 b.hear.lo, .int .i64 b.hear.hi, .int .i64 b.br, .int .i64 b.cr, .int .i64 b.sl, .ref 1, .ref 8], .s (.int .i64 (k : Int)), .g [.int .i64 ((b.ships.getD k zShip).aw.lo + (i : Int)), .int .i64 ((b.ships.getD k zShip).sp.lo + (j : Int))], .s (.ref 2)] (.s (.bool (rightF b k ((b.ships.getD k zShip).aw.lo + (i : Int)) ((b.ships.getD k zShip).sp.lo + (j : Int)) but))) [((((b.ships.getD k zShip).aw.lo + (i : Int)) == 0 && ((b.ships.getD k zShip).sp.lo + (j : Int)) == 0) || (decide (((b.ships.getD k zShip).aw.lo + (i : Int)) > b.hear.hi)), false)] (by kernel_rfl) (goes_of (by kernel_rfl)) (by kernel_rfl) (by kernel_rfl) (fun _ n w h => right_calls (n 0) (n 1) (n 8) (n 2) b _ _ _ but w (HSat_toBook h (by kernel_rfl) (by kernel_rfl)) (h.one 8) (h.reads (id := 2) (kd := .ro) (e := 3) (by kernel_rfl)) hk hv (by omega) (by omega)) ?_
      refine WPQ_all tt_ok (by kernel_rfl) ?_
      refine WP_cond (((((b.ships.getD k zShip).aw.lo + (i : Int)) == 0 && ((b.ships.getD k zShip).sp.lo + (j : Int)) == 0) || (decide (((b.ships.getD k zShip).aw.lo + (i : Int)) > b.hear.hi))) || (!(rightF b k ((b.ships.getD k zShip).aw.lo + (i : Int)) ((b.ships.getD k zShip).sp.lo + (j : Int)) but))) (by kernel_rfl) (fun hc3 => ?_) (fun hc3 => ?_)
      · refine WP_exit ?_
        refine WP_region (WPO_all tt_ok (by kernel_rfl) ?_)
        refine ⟨(IntKind.i64.wrap ((j : Int) + 1), preC b k but i ++ rowC b k but i j, G), ?_, ?_, Le_sel (ts := [37, 36, 7, 26, 25, 6, 5, 0, 1, 2, 3]) (ids := [21, 20, 18, 19, 14, 15, 16, 0, 1, 2, 7, 9]) (nx := 22) (by kernel_rfl)⟩
        · refine ⟨j + 1, by omega, by simp only; rw [wrapI (by omega) (by omega)]; rfl, ?_⟩
          simp only
          rw [rowC_snoc]
          first
          | rw [if_pos (okC_of hc3), List.append_assoc]
          | rw [if_neg (okC_not hc3 (by omega)), List.append_nil]
        · simp only
          rw [wrapI (by omega) (by omega)]
          omega
      refine WP_skip ?_
      refine WP_seq (WP_yield tt_ok 2 (preC b k but i ++ rowC b k but i j) (((b.ships.getD k zShip).aw.lo + (i : Int)), ((b.ships.getD k zShip).sp.lo + (j : Int))) L 18 19 [.g [.int .i64 ((b.ships.getD k zShip).aw.lo + (i : Int)), .int .i64 ((b.ships.getD k zShip).sp.lo + (j : Int))]] (some 73) G GR encC (coursesF b k but) RF J Jx (by kernel_rfl) (by kernel_rfl) (by kernel_rfl) (by kernel_rfl) hJ hJx hY (by exact courses_prefix hi hj (okC_of hc3)) (fun n => by rfl) (fun F' G' b => by kernel_rfl) (fun G' => ?_) (fun G' => ?_))
      · refine WP_cond (!true) (by kernel_rfl) (fun h => by cases h) (fun hc4 => ?_)
        refine WP_skip ?_
        refine WP_region (WPO_all tt_ok (by kernel_rfl) ?_)
        refine ⟨(IntKind.i64.wrap ((j : Int) + 1), preC b k but i ++ rowC b k but i j ++ [(((b.ships.getD k zShip).aw.lo + (i : Int)), ((b.ships.getD k zShip).sp.lo + (j : Int)))], G'), ?_, ?_, Le_sel (ts := [37, 36, 7, 26, 25, 6, 5, 0, 1, 2, 3]) (ids := [21, 20, 18, 19, 14, 15, 16, 0, 1, 2, 7, 9]) (nx := 22) (by kernel_rfl)⟩
        · refine ⟨j + 1, by omega, by simp only; rw [wrapI (by omega) (by omega)]; rfl, ?_⟩
          simp only
          rw [rowC_snoc]
          first
          | rw [if_pos (okC_of hc3), List.append_assoc]
          | rw [if_neg (okC_not hc3 (by omega)), List.append_nil]
        · simp only
          rw [wrapI (by omega) (by omega)]
          omega
      refine WP_cond (!false) (by kernel_rfl) (fun hc5 => ?_) (fun h => by cases h)
      refine WP_ret ?_
      exact ⟨.t [], by kernel_rfl, fun n1 w' h => ⟨⟨_, rfl⟩, n1, G', preC b k but i ++ rowC b k but i j ++ [(((b.ships.getD k zShip).aw.lo + (i : Int)), ((b.ships.getD k zShip).sp.lo + (j : Int)))], fun id hid => h.ini id hid, .inr ⟨courses_prefix hi hj (okC_of hc3), (h.back hh.ini hh.inx).two (by kernel_rfl) (by kernel_rfl) rfl 20 hh.inx (by omega) (by omega)⟩⟩⟩
    have hc2 := of_decide_eq_false hc2
    refine WP_exit ?_
    rw [hnS] at hc2
    have hjn : j = nS b k := by omega
    refine WP_region (WPO_all tt_ok (by kernel_rfl) ?_)
    refine ⟨(IntKind.i64.wrap ((i : Int) + 1), preC b k but i ++ rowC b k but i j, G), ?_, ?_, Le_sel (ts := [26, 25, 6, 5, 0, 1, 2, 3]) (ids := [21, 20, 18, 19, 14, 15, 16, 0, 1, 2, 7, 9]) (nx := 22) (by kernel_rfl)⟩
    · refine ⟨i + 1, by omega, by simp only; rw [wrapI (by omega) (by omega)]; rfl, ?_⟩
      simp only
      rw [preC_succ, hjn]
    · simp only
      rw [wrapI (by omega) (by omega)]
      omega
  have hc1 := of_decide_eq_false hc1
  refine WP_exit ?_
  rw [hnA] at hc1
  have hin : i = nA b k := by omega
  exact ⟨.t [], by kernel_rfl, fun n1 w' h => ⟨⟨_, rfl⟩, n1, G, preC b k but i, fun id hid => h.ini id hid, .inl ⟨by unfold coursesF; rw [hin], (h.back hh.ini hh.inx).two (by kernel_rfl) (by kernel_rfl) rfl 20 hh.inx (by omega) (by omega)⟩⟩⟩
end Go.Proofs.YtamimgmoomcipaaDoor.Fw
namespace Go.Proofs.YtamimgmoomcipaaDoor.Fw
open Go Go.RowKit Go.Proofs.YtamimgmoomcipaaDoor.Eng
set_option linter.unusedVariables false
set_option linter.unusedSimpArgs false
def encM (g : Nat) : List Value := [.map (some g)]
abbrev moC (b : Book) (maps : List Nat) (FX : World → Prop) (GX : Nat → Prop) : List (Nat × HE) := [(3, .box 27 (bookA b)), (4, .box 94 (bookK b)), (5, .box 37 [.ref 2]), (6, .box 129 [.ref 7]), (8, .sl .own 100 1 maps encM 0), (10, .jf FX GX)]
abbrev hpO (b : Book) (but : List Int) (maps : List Nat) (FX : World → Prop) (GX : Nat → Prop) : List (Nat × HE) := moC b maps FX GX ++ roC b but maps
theorem courses_ok {cx : Cx} {s s1 : AS} {L : List (Nat × HE)} {b : Book} {k : Nat} (h1 : s.hp = L) (h2 : s.nx = 14)
    (h3 : s1.hp = (17, .clo 113 [] [.s (.p 14 0), .s (.p 15 0), .s (.p 16 0)]) :: (16, .box 37 [.ref 2]) :: (15, .box 3 [ai k]) :: (14, .box 94 (bookK b)) :: L) (h4 : s1.nx = 18) :
    CallOk Tryd.prog cx s 104 [.g (bookK b), .s (ai k), .s (.ref 2)] (.s (.ref 17)) s1 := by
  intro n w hh
  have hh2 : HSat ⟨cx.w0, cx.ok, n, 14, true⟩ n ⟨8, env0 0 [.g (bookK b), .s (ai k), .s (.ref 2)], L, 14, []⟩ w :=
    (HSat.top (b := true) hh).of_same (s2 := ⟨8, env0 0 [.g (bookK b), .s (ai k), .s (.ref 2)], L, 14, []⟩) h1.symm h2.symm |> fun h => by rw [h2] at h; exact h
  refine calls_of_WP (cx := ⟨cx.w0, cx.ok, n, 14, true⟩) (n := n) (vs := [.g (bookK b), .s (ai k), .s (.ref 2)]) (hp := L) (nx := 14) tt_ok Tryd.func104 rfl rfl rfl (by kernel_rfl) hh2 (vsOk (by kernel_rfl)) ?_
  refine WP_seq (WP_region (WPO_all tt_ok (by kernel_rfl) ?_))
  refine WP_seq (WP_region (WPO_all tt_ok (by kernel_rfl) ?_))
  refine WP_ret ?_
  exact ⟨.s (.ref 17), by kernel_rfl, fun n1 w' h => ⟨n1, fun id hid => h.ini id (by rw [← h2]; exact hid), rfl, ((h.of_same (s2 := s1) (by rw [h3]; kernel_rfl) (by rw [h4]; kernel_rfl)).back (fun id hid => hh.ini id hid) (by have := hh.inx; rw [h2] at this; exact this))⟩⟩
theorem mem_preC {b : Book} {k : Nat} {but : List Int} {m : Nat} {c : Int × Int} (h : c ∈ preC b k but m) : ∃ i j : Nat, i < m ∧ j < nS b k ∧ c = ((b.ships.getD k zShip).aw.lo + i, (b.ships.getD k zShip).sp.lo + j) ∧ okC b k but c = true := by
  unfold preC at h
  obtain ⟨i, hi, hc⟩ := List.mem_flatMap.1 h
  unfold rowC at hc
  obtain ⟨hc, ho⟩ := List.mem_filter.1 hc
  obtain ⟨j, hj, rfl⟩ := List.mem_map.1 hc
  exact ⟨i, j, List.mem_range.1 hi, List.mem_range.1 hj, rfl, ho⟩
theorem mem_courses {b : Book} {k : Nat} {but : List Int} (hv : Valid b) (hk : k < b.ships.length) {c : Int × Int} (h : c ∈ coursesF b k but) : (1 ≤ c.1 ∧ c.1 ≤ 120) ∧ (1 ≤ c.2 ∧ c.2 ≤ 12) := by
  obtain ⟨i, j, hi, hj, rfl, _⟩ := mem_preC h
  have := hv.ship hk
  unfold nA at hi
  unfold nS at hj
  simp only
  omega
theorem rowC_nodup (b : Book) (k : Nat) (but : List Int) (i j : Nat) : (rowC b k but i j).Nodup := by
  unfold rowC
  refine List.Nodup.sublist List.filter_sublist ?_
  rw [List.nodup_iff_pairwise_ne, List.pairwise_map]
  refine (List.nodup_iff_pairwise_ne.1 List.nodup_range).imp fun {x y} h e => h ?_
  have := congrArg (·.2) e
  simp only at this
  omega
theorem preC_nodup (b : Book) (k : Nat) (but : List Int) (m : Nat) : (preC b k but m).Nodup := by
  induction m with
  | zero => simp [preC]
  | succ m ih =>
    rw [preC_succ, List.nodup_append]
    refine ⟨ih, rowC_nodup b k but m _, fun x hx y hy e => ?_⟩
    subst e
    obtain ⟨i, j, hi, _, hc, _⟩ := mem_preC hx
    unfold rowC at hy
    obtain ⟨q, _, hq⟩ := List.mem_map.1 (List.mem_filter.1 hy).1
    rw [hc] at hq
    have := congrArg (·.1) hq
    simp only at this
    omega
theorem courses_nodup (b : Book) (k : Nat) (but : List Int) : (coursesF b k but).Nodup := preC_nodup b k but _
theorem new_course {b : Book} {k : Nat} {but : List Int} {pre : List (Int × Int)} {x : Int × Int} (h : pre ++ [x] <+: coursesF b k but) : ∀ c ∈ pre, c ≠ (x.1, x.2) := by
  have hn := List.Nodup.sublist h.sublist (courses_nodup b k but)
  rw [List.nodup_append] at hn
  exact fun c hc => hn.2.2 c hc x (by simp)
end Go.Proofs.YtamimgmoomcipaaDoor.Fw
namespace Go.Proofs.YtamimgmoomcipaaDoor.Fw
open Go Go.RowKit Go.Proofs.YtamimgmoomcipaaDoor.Eng
set_option linter.unusedVariables false
set_option linter.unusedSimpArgs false
theorem wp_hp {cx : Cx} {n : Vn} {w : World} {s s2 : AS} (h : HSat cx n s w) (h1 : RenH (rnm []) s.hp s2.hp) (hi : inj s2.hp (rnm []) = true) (ho : heOks s2 s2.hp = true) (hm0 : cx.m0 ≤ s2.nx) : HSat cx n s2 w := h.ren [] h1 hi ho (fun _ _ => rfl) hm0
set_option maxHeartbeats 1000000 in
theorem opened1_calls (b : Book) (but : List Int) (hv : Valid b) : ∀ (r k : Nat) (maps : List Nat) (FX : World → Prop) (GX : Nat → Prop), k + r = b.ships.length → maps.length = k → ∀ (cx : Cx) (n : Vn) (w : World), cx.m0 ≤ 8 → HSat cx n ⟨0, [], hpO b but maps FX GX, 11, []⟩ w →
    Calls Tryd.prog 103 (([.s (ai k), .s (.p 3 0), .s (.p 4 0), .s (.p 5 0), .s (.p 6 0)] : List AV).map (AV.c n)).toArray w fun e w' => e = .returned (.tuple #[]) ∧ ∃ n' maps', (∀ id, id < 8 → n' id = n id) ∧ maps'.length = b.ships.length ∧ HSat cx n' ⟨0, [], hpO b but maps' FX GX, 11, []⟩ w' := by
  intro r
  induction r with
  | zero =>
    intro k maps FX GX hkr hlen cx n w hm hh
    have hh2 : HSat ⟨cx.w0, cx.ok, n, 8, true⟩ n ⟨35, env0 0 [.s (ai k), .s (.p 3 0), .s (.p 4 0), .s (.p 5 0), .s (.p 6 0)], hpO b but maps FX GX, 11, []⟩ w := ⟨hh.fr, fun _ _ => rfl, by show 8 ≤ 11; decide, hh.one, hh.ents, fun x hx => HE.ok_same (hh.oks x hx) rfl rfl, hh.sep, hh.lt, hh.ids⟩
    refine calls_of_WPM tt_ok Tryd.func103 rfl rfl rfl (by kernel_rfl) hh2 (vsOk (by kernel_rfl)) ?_
    refine WP_seq (WP_region (WPO_all tt_ok (by kernel_rfl) ?_))
    refine WP_seq (WP_seq (WP_region (WPO_all tt_ok (by kernel_rfl) ?_)))
    refine WP_cond ((k : Int) == (b.ships.length : Int)) (by kernel_rfl) (fun hc => ?_) (fun hc => absurd hc (by simp; omega))
    refine WP_ret ?_
    refine .inl ⟨.t [], by kernel_rfl, fun n1 w' h => ⟨rfl, n1, maps, fun id hid => h.ini id hid, by omega, ?_⟩⟩
    have h2 := wp_hp (s2 := ⟨0, [], hpO b but maps FX GX, 11, []⟩) h ⟨by kernel_rfl, by kernel_rfl, by kernel_rfl, by kernel_rfl, by kernel_rfl, by kernel_rfl, by kernel_rfl, by kernel_rfl, by kernel_rfl, by kernel_rfl, by kernel_rfl, trivial⟩ (by kernel_rfl) (by kernel_rfl) (by show 8 ≤ 11; decide)
    exact HSat.back (cx := cx) (n := n) (m := 8) (b := true) h2 (fun id hid => hh.ini id hid) hm
  | succ r ih =>
    intro k maps FX GX hkr hlen cx n w hm hh
    have hk : k < b.ships.length := by omega
    have hsh := hv.ship hk
    have hh2 : HSat ⟨cx.w0, cx.ok, n, 8, true⟩ n ⟨35, env0 0 [.s (ai k), .s (.p 3 0), .s (.p 4 0), .s (.p 5 0), .s (.p 6 0)], hpO b but maps FX GX, 11, []⟩ w := ⟨hh.fr, fun _ _ => rfl, by show 8 ≤ 11; decide, hh.one, hh.ents, fun x hx => HE.ok_same (hh.oks x hx) rfl rfl, hh.sep, hh.lt, hh.ids⟩
    refine calls_of_WPM tt_ok Tryd.func103 rfl rfl rfl (by kernel_rfl) hh2 (vsOk (by kernel_rfl)) ?_
    refine WP_seq (WP_region (WPO_all tt_ok (by kernel_rfl) ?_))
    refine WP_seq (WP_seq (WP_region (WPO_all tt_ok (by kernel_rfl) ?_)))
    refine WP_cond ((k : Int) == (b.ships.length : Int)) (by kernel_rfl) (fun hc => absurd hc (by simp; omega)) (fun hc => ?_)
    refine WP_skip ?_
    refine WP_seq (WP_region (MKMg (κ := Int × Int) ekC (exC b k) (some 13) (by kernel_rfl) (fun g => by kernel_rfl) (fun g => ?_)))
    refine WPO_all tt_ok (by kernel_rfl) ?_
    refine WP_le (s' := ⟨35, [(1, [], .s (.p 3 0)), (2, [], .s (.p 4 0)), (3, [], .s (.p 5 0)), (4, [], .s (.p 6 0)), (5, [], .s (.p 11 0)), (6, [], .s (.p 13 0))], (13, .box 100 [.v (.map (some g))]) :: (12, mapE g ([] : List (Int × Int)) ekC (exC b k)) :: (11, .box 3 [ai k]) :: hpO b but maps FX GX, 14, []⟩) (Le_sel (ts := [1, 2, 3, 4, 5, 6]) (ids := [13, 12, 11, 3, 4, 5, 6, 8, 10, 0, 1, 2, 7, 9]) (nx := 14) (by kernel_rfl)) ?_
    refine WP_seq (WP_seq (WP_region (WPO_run tt_ok 3 (by kernel_rfl) ?_)))
    refine CALLN 104 [.g (bookK b), .s (ai k), .s (.ref 2)] ⟨35, [(16, [], .s (.ref 2)), (15, [], .s (ai k)), (14, [], .g (bookK b)), (1, [], .s (.p 3 0)), (2, [], .s (.p 4 0)), (3, [], .s (.p 5 0)), (4, [], .s (.p 6 0)), (5, [], .s (.p 11 0)), (6, [], .s (.p 13 0))], (17, .clo 113 [] [.s (.p 14 0), .s (.p 15 0), .s (.p 16 0)]) :: (16, .box 37 [.ref 2]) :: (15, .box 3 [ai k]) :: (14, .box 94 (bookK b)) :: (13, .box 100 [.v (.map (some g))]) :: (12, mapE g ([] : List (Int × Int)) ekC (exC b k)) :: (11, .box 3 [ai k]) :: hpO b but maps FX GX, 18, []⟩ (.s (.ref 17)) (by kernel_rfl) (goes_of (by kernel_rfl)) (by kernel_rfl) (by kernel_rfl)
      (more_ext 4 (by kernel_rfl) (by kernel_rfl) (by kernel_rfl)) ⟨by kernel_rfl, by kernel_rfl, by kernel_rfl⟩ (courses_ok (L := (13, .box 100 [.v (.map (some g))]) :: (12, mapE g ([] : List (Int × Int)) ekC (exC b k)) :: (11, .box 3 [ai k]) :: hpO b but maps FX GX) (by kernel_rfl) (by kernel_rfl) (by kernel_rfl) (by kernel_rfl)) ?_
    refine WPO_end (by kernel_rfl) ?_
    refine WP_block (WP_range tt_ok rfl (coursesF b k but) encC (fun c => [.g [ai c.1, ai c.2]]) [1, 2, 3, 4, 5, 6] [(1, [], .s (.p 3 0)), (2, [], .s (.p 4 0)), (3, [], .s (.p 5 0)), (4, [], .s (.p 6 0)), (5, [], .s (.p 11 0)), (6, [], .s (.p 13 0))] 17 113 [.s (.p 14 0), .s (.p 15 0), .s (.p 16 0)]
      (fun pre => (12, mapE g pre ekC (exC b k)) :: (13, .box 100 [.v (.map (some g))]) :: (11, .box 3 [ai k]) :: moC b maps FX GX) (fun _ _ => none) (itC b k) (roC b but maps) (by kernel_rfl) (by kernel_rfl) (goes_of (by kernel_rfl)) (by kernel_rfl)
      ⟨by kernel_rfl, by kernel_rfl, by kernel_rfl, by kernel_rfl, by kernel_rfl, by kernel_rfl, by kernel_rfl, by kernel_rfl, by kernel_rfl, by kernel_rfl, by kernel_rfl, by kernel_rfl, by kernel_rfl, by kernel_rfl, by kernel_rfl, by kernel_rfl, by kernel_rfl, trivial⟩ (by kernel_rfl)
      (fun pre => by kernel_rfl) (fun c pre Mr h => by cases h) (by kernel_rfl) (fun x n => rfl) (fun x => rfl) (fun x v hv => by rw [List.mem_singleton.1 hv]; kernel_rfl) (fun v hv => by simp at hv; rcases hv with rfl | rfl | rfl <;> kernel_rfl)
      (courses_iter b k but maps hk hv) ?round ?done (fun D c pre Mr h => by cases h))
    case round =>
      intro pre x hpre w0 ok n0 L D FL FB hn0
      have hx := mem_courses hv hk (hpre.subset (List.mem_append_right _ (List.mem_singleton.2 rfl)))
      refine ⟨⟨35, [(18, [], .g [ai x.1, ai x.2]), (1, [], .s (.p 3 0)), (2, [], .s (.p 4 0)), (3, [], .s (.p 5 0)), (4, [], .s (.p 6 0)), (5, [], .s (.p 11 0)), (6, [], .s (.p 13 0))], (18, eL L FL) :: (19, eD D) :: (((12, mapE g pre ekC (exC b k)) :: (13, .box 100 [.v (.map (some g))]) :: (11, .box 3 [ai k]) :: moC b maps FX GX) ++ roC b but maps), 20, []⟩, by kernel_rfl, ?_⟩
      refine WP_region (WPO_all tt_ok (by kernel_rfl) ?_)
      refine ⟨by kernel_rfl, ?_⟩
      refine WP_block ?_
      refine WP_drawH [12] (by kernel_rfl) (by kernel_rfl) ?_
      refine H_run tt_ok [0, 1, 2, 3, 4] (f' := 2) (by kernel_rfl) (by kernel_rfl) (by kernel_rfl) ?_
      refine H_step 5 (by kernel_rfl) (by kernel_rfl) (fun hfz cx' hx1 hx2 => ?_)
      refine CALL 105 [.g (bookK b), .s (ai k), .g [ai x.1, ai x.2]] (.g (arrB 201 (nearF b k x.1 x.2))) [] (by kernel_rfl) (goes_of (by kernel_rfl)) (by kernel_rfl) (by kernel_rfl) (fun _ n w h => by rw [arrB_c]; exact nears_calls (n 0) (n 1) (n 8) b k x.1 x.2 w (HSat_toBook h (by kernel_rfl) (by kernel_rfl)) (h.one 8) hk hv (by omega) (by omega)) ?_
      refine WPO_end (by kernel_rfl) ⟨rfl, hfz.fnds [20, 18, 19, 13, 11, 3, 4, 5, 6, 8, 10, 0, 1, 2, 7, 9] (by kernel_rfl) ⟨by kernel_rfl, by kernel_rfl, by kernel_rfl, by kernel_rfl, by kernel_rfl, by kernel_rfl, by kernel_rfl, by kernel_rfl, by kernel_rfl, by kernel_rfl, by kernel_rfl, by kernel_rfl, by kernel_rfl, by kernel_rfl, by kernel_rfl, by kernel_rfl, trivial⟩ (by kernel_rfl), ?_⟩
      refine H_step 6 (by kernel_rfl) (by kernel_rfl) (fun hfz cx' hx1 hx2 => ?_)
      refine MUPg tt_ok pre ekC (exC b k) x 12 g 102 (.g [ai x.1, ai x.2]) (.g (arrB 201 (nearF b k x.1 x.2))) (by kernel_rfl) (by kernel_rfl) (fun n => ⟨rfl, arrB_c _ _ _⟩) (fun w => check_pair (by kernel_rfl) x.1 x.2 w) (fun w => find_pair_none (by kernel_rfl) x.1 x.2 (fun c => c) ekC (exC b k) (fun c => rfl) w pre (new_course hpre)) ?_
      refine WPO_end (by kernel_rfl) ⟨rfl, hfz.fnds [20, 18, 19, 13, 11, 3, 4, 5, 6, 8, 10, 0, 1, 2, 7, 9] (by kernel_rfl) ⟨by kernel_rfl, by kernel_rfl, by kernel_rfl, by kernel_rfl, by kernel_rfl, by kernel_rfl, by kernel_rfl, by kernel_rfl, by kernel_rfl, by kernel_rfl, by kernel_rfl, by kernel_rfl, by kernel_rfl, by kernel_rfl, by kernel_rfl, by kernel_rfl, trivial⟩ (by kernel_rfl), ?_⟩
      refine H_done (by kernel_rfl) ?_
      exact Le_sel (ts := []) (ids := [18, 19, 12, 13, 11, 3, 4, 5, 6, 8, 10, 0, 1, 2, 7, 9]) (nx := 20) (by kernel_rfl)
    case done =>
      intro D
      refine WP_seq (WP_region (WPO_run tt_ok 3 (by kernel_rfl) ?_))
      refine LIT tt_ok (by kernel_rfl) ?_
      refine APP tt_ok (.s (.ref 8)) (.s (.ref 20)) 92 100 (some 29) 1 maps [g] encM 0 (by kernel_rfl) (by kernel_rfl) (by kernel_rfl) (by kernel_rfl) (.inr (.inl ⟨8, rfl, by kernel_rfl⟩)) (.inl ⟨20, 1, [.v (.map (some g))], rfl, by kernel_rfl, rfl, fun n => rfl⟩) (by simp) (fun y => rfl) (fun y v hv => by rw [List.mem_singleton.1 hv]; rfl) (fun i hi => ?room) ?_
      case room =>
        have h8 : (tyL tt 100).map (·.bytes) = some 8 := by kernel_rfl
        rw [hi] at h8
        simp only [Option.map_some, Option.some.injEq] at h8
        have := hv.nships
        rw [h8, List.length_singleton]
        omega
      refine WPO_all tt_ok (by kernel_rfl) ?_
      refine WP_le (s' := ⟨35, [(4, [], .s (.p 6 0)), (5, [], .s (.p 11 0))], [(12, mapE g (coursesF b k but) ekC (exC b k)), (21, .sl .own 100 1 (maps ++ [g]) encM 0), (11, .box 3 [ai k]), (3, .box 27 (bookA b)), (4, .box 94 [.ref 0, ai b.hear.lo, ai b.hear.hi, ai b.br, ai b.cr, ai b.sl, .ref 1, .ref 21]), (5, .box 37 [.ref 2]), (6, .box 129 [.ref 7]), (10, .jf FX GX), (19, eD D)] ++ roC b but maps, 22, [D]⟩) (Le_sel (ts := [4, 5]) (ids := [12, 21, 11, 3, 4, 5, 6, 10, 19, 0, 1, 2, 7, 9]) (nx := 22) (by kernel_rfl)) ?_
      refine WP_fact (apart_of (i := 19) (j := 10) (F := fun w => w.heap[D]? = some (.deferred (some []))) (G := (· = D)) (F' := FX) (G' := GX) (by kernel_rfl) (by kernel_rfl) (by kernel_rfl)) (fun hD => ?_)
      refine WP_le (Le_freeze (id := 12) (F := fun w => w.heap[g]? = some (.map (ents (coursesF b k but) ekC (exC b k)) (coursesF b k but).length)) (G := (· = g)) (by kernel_rfl)) ?_
      refine WP_le (Le_facts (i := 12) (j := 9) (F := fun w => w.heap[g]? = some (.map (ents (coursesF b k but) ekC (exC b k)) (coursesF b k but).length)) (G := (· = g)) (F' := MapsAt b but maps) (G' := (· ∈ maps)) (by kernel_rfl) (by kernel_rfl) (by kernel_rfl) (MapsAt b but (maps ++ [g])) (· ∈ maps ++ [g]) (fun w h1 h2 q hq => ?mapF) (fun q hq => ?mapG) (fun w1 w2 h hw => h.stab hw)) ?_
      case mapF =>
        by_cases e : q < maps.length
        · rw [List.getElem_append_left e]; exact h2 q e
        · simp only [List.length_append, List.length_singleton] at hq
          obtain rfl : q = k := by omega
          rw [List.getElem_append_right (by omega)]
          simpa [hlen] using h1
      case mapG =>
        rcases List.mem_append.1 hq with h | h
        · exact .inr h
        · exact .inl (List.mem_singleton.1 h)
      refine WP_le (Le_jAnd (i := 19) (j := 10) (F := fun w => w.heap[D]? = some (.deferred (some []))) (G := (· = D)) (F' := FX) (G' := GX) (by kernel_rfl) (by kernel_rfl) (by kernel_rfl)) ?_
      refine WP_le (s' := ⟨35, [(4, [], .s (.p 6 0)), (5, [], .s (.p 11 0))], hpO b but (maps ++ [g]) (fun w => w.heap[D]? = some (.deferred (some [])) ∧ FX w) (fun g => g = D ∨ GX g) ++ [(11, .box 3 [ai k])], 12, [D]⟩) ?_ ?_
      · exact Le_ren [(8, 21), (9, 22), (10, 23)] ⟨by kernel_rfl, by kernel_rfl, by kernel_rfl, by kernel_rfl, by kernel_rfl, by kernel_rfl, by kernel_rfl, by kernel_rfl, by kernel_rfl, by kernel_rfl, by kernel_rfl, by kernel_rfl, trivial⟩ ⟨by kernel_rfl, rfl, by kernel_rfl, by kernel_rfl, rfl, by kernel_rfl, trivial⟩ (by kernel_rfl) (by kernel_rfl) (rnm_id (m := 8) (by kernel_rfl)) (by show 8 ≤ 12; decide) (by kernel_rfl) (by kernel_rfl)
      refine WP_region (WPO_run tt_ok 3 (by kernel_rfl) ?_)
      refine CALLE (σ := { m : List Nat // m.length = b.ships.length }) 103 [.s (ai (IntKind.i64.wrap ((k : Int) + 1))), .s (.p 3 0), .s (.p 4 0), .s (.p 5 0), .s (.p 6 0)] (fun m => ⟨35, [], hpO b but m.1 (fun w => w.heap[D]? = some (.deferred (some [])) ∧ FX w) (fun g => g = D ∨ GX g), 11, [D]⟩) (by kernel_rfl) (goes_of (by kernel_rfl)) (fun m => ⟨rfl, by kernel_rfl, by kernel_rfl⟩) (fun n w h => ?call) (fun m => ?_)
      case call =>
        rw [wrapI (by have := hv.nships; omega) (by have := hv.nships; omega)]
        have h2 := wp_hp (s2 := ⟨0, [], hpO b but (maps ++ [g]) (fun w => w.heap[D]? = some (.deferred (some [])) ∧ FX w) (fun g => g = D ∨ GX g), 11, []⟩) h ⟨by kernel_rfl, by kernel_rfl, by kernel_rfl, by kernel_rfl, by kernel_rfl, by kernel_rfl, by kernel_rfl, by kernel_rfl, by kernel_rfl, by kernel_rfl, by kernel_rfl, trivial⟩ (by kernel_rfl) (by kernel_rfl) (by show 8 ≤ 11; decide)
        have := ih (k + 1) (maps ++ [g]) (fun w => w.heap[D]? = some (.deferred (some [])) ∧ FX w) (fun g => g = D ∨ GX g) (by omega) (by simp [hlen]) _ n w (by show 8 ≤ 8; decide) h2
        exact this.mono fun e w' ⟨he, n', m, _, hml, hm'⟩ => ⟨⟨m, hml⟩, n', ⟨_, he⟩, hm'.slots⟩
      refine WPO_le (Le_jOut (j := 10) (by kernel_rfl) hD) ?_
      refine WPO_end (by kernel_rfl) ?_
      refine .inr ⟨.t [], D, 12, by kernel_rfl, by kernel_rfl, by kernel_rfl, fun n1 w' h => ⟨rfl, fun id => n1 (rnm [(10, 11)] id), m.1, fun id hid => ?_, m.2, ?_⟩⟩
      · show n1 (rnm [(10, 11)] id) = n id
        rw [rnm_id (m := 8) (by kernel_rfl) id hid]; exact h.ini id hid
      · have h2 := h.ren (s2 := ⟨0, [], hpO b but m.1 FX GX, 11, []⟩) [(10, 11)] ⟨by kernel_rfl, by kernel_rfl, by kernel_rfl, by kernel_rfl, by kernel_rfl, by kernel_rfl, by kernel_rfl, by kernel_rfl, by kernel_rfl, by kernel_rfl, by kernel_rfl, trivial⟩ (by kernel_rfl) (by kernel_rfl) (rnm_id (m := 8) (by kernel_rfl)) (by show 8 ≤ 11; decide)
        exact HSat.back (cx := cx) (n := n) (m := 8) (b := true) h2 (fun id hid => hh.ini id hid) hm
end Go.Proofs.YtamimgmoomcipaaDoor.Fw
namespace Go.Proofs.YtamimgmoomcipaaDoor.Eng
open Go Go.RowKit
set_option linter.unusedVariables false
set_option linter.unusedSimpArgs false
abbrev boxE (g : Nat) (ty : TypeId) (vs : Array Value) : HE := .jf (fun w => w.heap[g]? = some (.cells vs ty (0, 0))) (· = g)
def unC (id g : Nat) : AV → AV
  | .s (.p i o) => bif Nat.beq i id then .s (.v (.pointer (some ⟨g, o, none⟩))) else .s (.p i o)
  | v => v
def unE (id g : Nat) : List (Nat × List (Nat × Bool) × AV) → List (Nat × List (Nat × Bool) × AV)
  | [] => []
  | x :: r => (x.1, x.2.1, unC id g x.2.2) :: unE id g r
theorem unE_mem {id g : Nat} {l : List (Nat × List (Nat × Bool) × AV)} {x : Nat × List (Nat × Bool) × AV} (h : x ∈ unE id g l) : ∃ y ∈ l, x = (y.1, y.2.1, unC id g y.2.2) := by
  induction l with
  | nil => cases h
  | cons y r ih =>
    rcases List.mem_cons.1 h with rfl | h
    · exact ⟨y, List.mem_cons_self, rfl⟩
    · obtain ⟨z, hz, e⟩ := ih h; exact ⟨z, List.mem_cons_of_mem _ hz, e⟩
section
variable {P : Program} {cx : Cx} {s s' : AS} {Q : Exit → AS → Prop}
theorem WP_unbox {c : Code} {id : Nat} {ty : TypeId} {cs : List AC} (hf : fnd s.hp id = some (.box ty cs)) (vs : Array Value) (hcs : ∀ n, cellsV n cs = vs) (h : ∀ g, WP P cx { s with env := unE id g s.env, hp := rep s.hp id (boxE g ty vs) } c Q) : WP P cx s c Q := fun r m ht n a w hs => by
  obtain ⟨g, hv, hok, hh⟩ := hs.heap.ents _ (fnd_mem hf)
  refine h g r m ht n a w ?_
  have hw := hs.weak (e := boxE g ty vs) hf (fun _ => rfl) (fun q hq => by cases hq; simp only [HE.foot]; simp only at hv; rw [hv]; rfl) (Nat.le_refl _) ⟨by rw [← hcs n]; exact hh, fun q hq => by cases hq; exact hok, fun w1 w2 h hw => (hw g rfl).trans h⟩ trivial
  refine ⟨hw.heap.env, hw.size, fun x hx => ?_, hw.defers⟩
  obtain ⟨y, hy, rfl⟩ := unE_mem hx
  have he := hw.env y hy
  refine ⟨he.lt, fun hH => ?_, he.no⟩
  obtain ⟨e1, e2⟩ := he.yes hH
  have key : ∀ v : AV, v.ok { s with hp := rep s.hp id (boxE g ty vs) } → (unC id g v).c n = v.c n ∧ (unC id g v).ok { s with env := unE id g s.env, hp := rep s.hp id (boxE g ty vs) } := fun v hv2 => by
    have hid : v.ok { s with env := unE id g s.env, hp := rep s.hp id (boxE g ty vs) } := AV.ok_same hv2 rfl rfl
    unfold unC
    split
    · rename_i i o
      rcases hb : Nat.beq i id with _ | _
      · exact ⟨rfl, hid⟩
      · have := Nat.eq_of_beq_eq_true hb
        subst this
        refine ⟨?_, trivial⟩
        simp only [cond_true, AV.c, AC.c]
        simp only at hv
        rw [hv]; rfl
    · exact ⟨rfl, hid⟩
  obtain ⟨k1, k2⟩ := key _ e2
  exact ⟨e1.trans k1.symm, k2⟩
theorem Le_addpf (F : World → Prop) (G : Nat → Prop) (hF : ∀ w, F w) (hG : ∀ g, ¬ G g) : Le cx s (s.add (.pf F G)) := fun n a w hs =>
  ⟨_, env_add hs (upd_lt n s.nx .nilFunc) (hs.heap.add (e := .pf F G) (v := .nilFunc) (Below.refl _ w) rfl ⟨hF w, fun _ w2 _ _ => hF w2⟩ trivial (fun g hg => absurd hg (hG g)) (fun g hg => absurd hg (hG g)))⟩
theorem Le_rebox {id g : Nat} {ty : TypeId} {cs : List AC} {vs : Array Value} (hf : fnd s.hp id = some (boxE g ty vs)) (hcs : ∀ n, cellsV n cs = vs) (hcl : ∀ s0 : AS, cellsOk s0 cs) (ts : List (Nat × Nat)) (env2 : List (Nat × List (Nat × Bool) × AV))
    (henv : ∀ x ∈ env2, (look s.env x.1 = some (x.2.1, x.2.2) ∧ okB s x.2.2 = true) ∨ ∃ o, look s.env x.1 = some (x.2.1, .s (.v (.pointer (some ⟨g, o, none⟩)))) ∧ x.2.2 = .s (.p s.nx o)) :
    Le cx s { s with env := env2, hp := (s.nx, .box ty cs) :: rem s.hp id, nx := s.nx + 1 } := fun n a w hs => by
  have h1 := hs.heap.ents _ (fnd_mem hf)
  have hs1 : Sat cx n { s with hp := rem s.hp id } a w := env_hp hs (rem_more s id) (hs.heap.rem id)
  have hsym : ∀ (x y : Nat × HE), Sep n x y → Sep n y x := fun x y h hm g h1 h2 => h hm.symm g h2 h1
  have hs2 := env_add hs1 (upd_lt n s.nx (.pointer (some ⟨g, 0, none⟩))) (hs1.heap.add (e := .box ty cs) (v := .pointer (some ⟨g, 0, none⟩)) (Below.refl _ w) rfl ⟨g, rfl, h1.2.1 g rfl, by rw [hcs]; exact h1.1⟩ (hcl _) (fun q hq => by cases hq; exact hs.heap.lt _ (fnd_mem hf) g rfl)
    (fun q hq => .inr fun x hx _ hgx => by cases hq; exact pw_mem hsym hs.heap.sep ((rem_sub s.hp id).subset hx) (fnd_mem hf) (fun e => rem_ne hx (by rw [e])) (.inr rfl) g hgx rfl))
  refine ⟨_, hs2.heap.env, hs2.size, fun x hx => ?_, hs2.defers⟩
  rcases henv x hx with ⟨h3, h4⟩ | ⟨o, h3, h4⟩
  · have he := hs.env _ (look_mem h3)
    refine ⟨he.lt, fun hH => ?_, he.no⟩
    obtain ⟨e1, e2⟩ := he.yes hH
    exact ⟨by rw [e1]; exact (AV.c_congr e2 (upd_lt n s.nx _)).symm, okB_sound (okB_nx (Nat.le_succ _) h4)⟩
  · have he := hs.env _ (look_mem h3)
    refine ⟨he.lt, fun hH => ?_, he.no⟩
    obtain ⟨e1, e2⟩ := he.yes hH
    rw [h4]
    refine ⟨?_, Nat.lt_succ_self _⟩
    rw [e1]
    simp only [AV.c, AC.c, upd_same]
    rfl
end
end Go.Proofs.YtamimgmoomcipaaDoor.Eng
namespace Go.Proofs.YtamimgmoomcipaaDoor.Eng
open Go Go.RowKit
set_option linter.unusedVariables false
set_option linter.unusedSimpArgs false
def mlenA (tt : TT) (ops : Array Oper) (s : AS) : List Oper → Option (AV × List (Bool × Bool) × Option Tmp × List (Nat × Bool))
  | o :: _ => match o.op, gTag s ops o with
    | .call c, some T => match c.callee, c.args.toList, c.argTypes.toList with
      | .builtin .len, [x], [t] => match tyL tt t, ev s T x with
        | some ⟨_, _, _, .map _ _⟩, some v => some (v, tagL s T, o.dst, T)
        | _, _ => none
      | _, _, _ => none
    | _, _ => none
  | [] => none
def mlenP (tt : TT) (ops : Array Oper) (s : AS) (l : List Oper) (N : Nat) : Option AS :=
  match mlenA tt ops s l with
  | some (_, _, d, T) => s.put d T (.s (.int .i64 (N : Int)))
  | none => none
section
variable {P : Program} {tt : TT} {cx : Cx} {s s' : AS} {Q : Exit → AS → Prop} {ops : Array Oper} {l : List Oper}
theorem mlen_sound (hT : TTok P tt) {v : AV} {G : List (Bool × Bool)} {d : Option Tmp} {T : List (Nat × Bool)} (h : mlenA tt ops s l = some (v, G, d, T)) (N : Nat) : ∃ (o : Oper) (rest : List Oper), l = o :: rest ∧ gTag s ops o = some T ∧ d = o.dst ∧ G = tagL s T ∧
    ∀ (cx : Cx) n a w, HSat cx n s w → (∀ x ∈ s.env, EntOk n s a x) → Holds a T → (∃ g es clk, v.c n = .map (some g) ∧ w.heap[g]? = some (.map es clk) ∧ es.size = N) →
      (execOp a.eval o).run P w = .ok (.value (.int .i64 (N : Int))) w := by
  cases l with
  | nil => cases h
  | cons o rest =>
    simp only [mlenA] at h
    split at h <;> try (cases h; done)
    rename_i c T' ho hg
    split at h <;> try (cases h; done)
    rename_i x t hc hargs htys
    split at h <;> try (cases h; done)
    rename_i z1 b1 zv k e v' ht hx
    simp only [Option.some.injEq, Prod.mk.injEq] at h
    obtain ⟨rfl, rfl, rfl, rfl⟩ := h
    refine ⟨o, rest, rfl, hg, rfl, rfl, fun cx n a w hh henv hH hm => ?_⟩
    obtain ⟨g, es, clk, hv, hw, hN⟩ := hm
    obtain ⟨F⟩ := hT.get ht
    have hd : F.desc = .map k e := by
      have := F.td
      cases hd : F.desc <;> rw [hd] at this <;> simp only [tdOf] at this <;> first
        | (cases this; done)
        | (injection this with h1 h2; rw [h1, h2])
    obtain ⟨e1, _⟩ := ev_sound henv hH hx
    have ha : c.args = #[x] := by apply Array.ext'; simpa using hargs
    have hty : c.argTypes = #[t] := by apply Array.ext'; simpa using htys
    unfold execOp
    rw [ho]
    simp only [resolve, hc, ha, hty, Sem.run_bind, Sem.run_pure, Result.andThen_ok, invoke]
    simp [builtin, Builtin.len_, e1, hv, run_underlying F.hdesc, hd, run_getObj' hw, goInt, hN]
theorem MLEN (hT : TTok P tt) (v : AV) (G : List (Bool × Bool)) (N : Nat) (h : (mlenA tt ops s l).map (fun z => (z.1, z.2.1)) = some (v, G)) (hm : AllEq G → ∀ n w, HSat cx n s w → ∃ g es clk, v.c n = .map (some g) ∧ w.heap[g]? = some (.map es clk) ∧ es.size = N)
    (hp : (mlenP tt ops s l N).isSome = true) (hK : WPO P cx ops l.tail ((mlenP tt ops s l N).getD s) Q) : WPO P cx ops l s Q := by
  obtain ⟨⟨v', G', d, T⟩, hr, he⟩ := Option.map_eq_some_iff.1 h
  simp only [Prod.mk.injEq] at he
  obtain ⟨rfl, rfl⟩ := he
  obtain ⟨o, rest, rfl, hg, rfl, rfl, hrun⟩ := mlen_sound (P := P) hT hr N
  obtain ⟨s', hs'⟩ := Option.isSome_iff_exists.1 hp
  rw [hs'] at hK
  simp only [mlenP, hr] at hs'
  exact WPO_val hg hs' (fun hp n a w hh henv hH => ⟨hrun cx n a w hh henv hH (hm (tagP_all hp) n w hh), trivial⟩) hK
end
end Go.Proofs.YtamimgmoomcipaaDoor.Eng
namespace Go.Proofs.YtamimgmoomcipaaDoor.Eng
open Go Go.RowKit
set_option linter.unusedVariables false
set_option linter.unusedSimpArgs false
def left (m : Nat) (sn : List Nat) : Nat := ((List.range m).filter fun i => !sn.contains i).length
theorem left_lt {m i : Nat} {sn : List Nat} (h : i < m) (hn : i ∉ sn) : left m (sn ++ [i]) < left m sn := by
  have e : ((List.range m).filter fun j => !(sn ++ [i]).contains j) = ((List.range m).filter fun j => !sn.contains j).filter (fun j => !(j == i)) := by
    rw [List.filter_filter]
    congr 1
    funext j
    simp [List.contains_eq_mem]
    rw [Bool.and_comm, show (j == i) = decide (j = i) from by rw [Bool.eq_iff_iff]; simp]
  unfold left
  rw [e, List.length_filter_lt_length_iff_exists]
  exact ⟨i, List.mem_filter.2 ⟨List.mem_range.2 h, by simpa using hn⟩, by simp⟩
theorem arrB_ok (s : AS) (m : Nat) (f : Nat → Bool) : cellsOk s (arrB m f) := fun c hc => by
  simp only [arrB, List.mem_map] at hc
  obtain ⟨q, _, rfl⟩ := hc
  trivial
theorem ints_ok (s : AS) (a b : Int) : cellsOk s [.int .i64 a, .int .i64 b] := fun c hc => by
  rcases List.mem_cons.1 hc with rfl | hc
  · trivial
  · rw [List.mem_singleton.1 hc]; trivial
end Go.Proofs.YtamimgmoomcipaaDoor.Eng
namespace Go.Proofs.YtamimgmoomcipaaDoor.Eng
open Go Go.RowKit
set_option linter.unusedVariables false
set_option linter.unusedSimpArgs false
def ldgA (s : AS) : List Oper → Option (TypeId × Nat × Option Tmp)
  | o :: _ => match o.op, o.guard with
    | .load t x, none => match ev s [] x with
      | some (.s (.v (.pointer (some ⟨g, 0, none⟩)))) => some (t, g, o.dst)
      | _ => none
    | _, _ => none
  | [] => none
section
variable {P : Program} {tt : TT} {cx : Cx} {s s' : AS} {Q : Exit → AS → Prop} {ops : Array Oper} {l : List Oper}
theorem LDG (hT : TTok P tt) (t g : Nat) (d : Option Tmp) (cs : List AC) (ty : TypeId) (v : AV) (h : ldgA s l = some (t, g, d)) (hv : ((tyL tt t).bind fun i => sub cs 0 i.size i.d.ag) = some v) (hcl : okB.cl s cs = true)
    (hw : ∀ n w, HSat cx n s w → w.heap[g]? = some (.cells (cellsV n cs) ty (0, 0))) (hp : (s.put d [] v).isSome = true) (hK : WPO P cx ops l.tail ((s.put d [] v).getD s) Q) : WPO P cx ops l s Q := fun n a w hs => by
  cases l with
  | nil => cases h
  | cons o rest =>
    obtain ⟨s', hs'⟩ := Option.isSome_iff_exists.1 hp
    rw [hs'] at hK
    simp only [ldgA] at h
    split at h <;> try (cases h; done)
    rename_i t' x ho hg
    split at h <;> try (cases h; done)
    rename_i g' hx
    cases h
    obtain ⟨i, hi, hsub⟩ := Option.bind_eq_some_iff.1 hv
    obtain ⟨F⟩ := hT.get hi
    have hH : Holds a [] := fun x hx => by cases hx
    obtain ⟨e1, _⟩ := ev_sound hs.env hH hx
    simp only [AV.c, AC.c] at e1
    have hheap := hw n w hs.heap
    have hl := loadVar_sound (w := w) (n := n) F ⟨g, 0, none⟩ cs 0 v hsub fun j c hc _ => by
      rw [add_pl, cell_of_row w g _ _ _ _ hheap]
      simp only [Nat.zero_add] at hc
      simp [cellsV, hc]
    have hrun : (execOp a.eval o).run P w = .ok (.value (v.c n)) w := by
      unfold execOp
      rw [ho]
      simp only [e1, Sem.run_bind, Instr.loadAt, Instr.sureAddr, Sem.run_pure, Result.andThen_ok, hl]
    exact wp_value (wanted_none (ops := ops) hg) hrun (hK _ _ _ (put_sat hs hs' (fun _ => ⟨rfl, sub_ok (okB_cl hcl) hsub⟩) (fun hn => absurd hH hn)))
end
end Go.Proofs.YtamimgmoomcipaaDoor.Eng
namespace Go.Proofs.YtamimgmoomcipaaDoor.Eng
open Go Go.RowKit
set_option linter.unusedVariables false
set_option linter.unusedSimpArgs false
section
variable {P : Program} {tt : TT} {cx : Cx} {s s' : AS} {Q : Exit → AS → Prop} {ops : Array Oper} {l : List Oper}
def nilE (id : Nat) (ts : List Nat) : List (Nat × List (Nat × Bool) × AV) → List (Nat × List (Nat × Bool) × AV)
  | [] => []
  | x :: r => (match memN x.1 ts, x.2.2 with
    | true, .s (.v (.slice none 0 0)) => (x.1, x.2.1, .s (.ref id))
    | _, _ => x) :: nilE id ts r
theorem nilE_mem {id : Nat} {ts : List Nat} {l : List (Nat × List (Nat × Bool) × AV)} {x : Nat × List (Nat × Bool) × AV} (h : x ∈ nilE id ts l) : x ∈ l ∨ ∃ y ∈ l, y.2.2 = .s (.v (.slice none 0 0)) ∧ x = (y.1, y.2.1, .s (.ref id)) := by
  induction l with
  | nil => cases h
  | cons z r ih =>
    simp only [nilE] at h
    rcases List.mem_cons.1 h with h | h
    · split at h
      · rename_i h1 h2; exact .inr ⟨z, List.mem_cons_self, h2, h⟩
      · exact .inl (h ▸ List.mem_cons_self)
    · rcases ih h with h | ⟨y, hy, h1, h2⟩
      · exact .inl (List.mem_cons_of_mem _ h)
      · exact .inr ⟨y, List.mem_cons_of_mem _ hy, h1, h2⟩
theorem Le_nilT (ts : List Nat) (e : TypeId) (sz : Nat) {α : Type} (enc : α → List Value) (z : α) (henc : ∀ y, (enc y).length = sz) :
    Le cx s { s.add (.sl .own e sz ([] : List α) enc z) with env := nilE s.nx ts s.env } := fun n a w hs => by
  have hh : HSat cx (upd n s.nx (.slice none 0 0)) (s.add (.sl .own e sz ([] : List α) enc z)) w :=
    hs.heap.add (Below.refl _ _) rfl ⟨henc, fun g hg => (by cases hg), by rw [show flat ([] : List α) enc = [] from rfl]; exact ⟨by simp, .inl ⟨rfl, by simp⟩⟩⟩ trivial (fun g hg => (by cases hg)) (fun g hg => (by cases hg))
  have hst := env_add hs (upd_lt n s.nx _) hh
  refine ⟨_, hh.env, hst.size, fun x hx => ?_, hst.defers⟩
  rcases nilE_mem hx with hx | ⟨y, hy, h1, rfl⟩
  · exact (hst.env x hx).same rfl rfl rfl
  · have hey := hst.env y hy
    refine ⟨hey.lt, fun hH => ⟨?_, Nat.lt_succ_self _⟩, hey.no⟩
    have := (hey.yes hH).1
    rw [h1] at this
    rw [this]
    simp only [AV.c, AC.c]
    exact (upd_same _ _ _).symm
theorem CallOk.new {k : FuncId} {vs : List AV} {e : TypeId} {sz : Nat} {α : Type} {li : List α} {enc : α → List Value} {z : α} (hsz : 0 < sz) (henc : ∀ y, (enc y).length = sz)
    (h : ∀ n w, HSat cx n s w → Calls P k (vs.map (AV.c n)).toArray w fun e w' => ∃ v, e = .returned v ∧ Below w.heap.size w w' ∧ Reads w' v sz li enc z ∧ (∀ g, vblk v = some g → 0 < li.length → w.heap.size ≤ g)) :
    CallOk P cx s k vs (.s (.ref s.nx)) (s.add (.sl .ro e sz li enc z)) := fun n w hh => (h n w hh).mono fun e w' ⟨v, h1, h2, h3, h4⟩ =>
  ⟨upd n s.nx v, upd_lt n s.nx v, by rw [h1]; simp only [AV.c, AC.c]; rw [upd_same], hh.add h2 h3.one ⟨henc, h3⟩ trivial (fun g ⟨hg1, hg2⟩ => by
    obtain ⟨A, c, rfl, _, _, h5⟩ := h3
    obtain ⟨ad, rfl, hc⟩ := h5 hg2
    have := World.block_lt_of_cell? w' _ (hc 0 hg2 0 hsz)
    rw [add_block] at this
    simp only [vblk, Option.some.injEq] at hg1
    rw [← hg1]; exact this) (fun g ⟨hg1, hg2⟩ => .inl (h4 g hg1 hg2))⟩
theorem CALLX {σ : Type} (k : FuncId) (vs : List AV) (s1 : σ → AS) (r : σ → AV) (h : (callA ops s l).map (fun x => (x.1, x.2.1, x.2.2.2.2)) = some (k, vs, [])) (hgo : goes P k) (hp : ∀ x, (callPN ops s l (s1 x) (r x)).isSome = true) (hr : ∀ x, okB (s1 x) (r x) = true)
    (hm : ∀ x, More s (s1 x)) (he : ∀ x, (s1 x).env = s.env ∧ (s1 x).nt = s.nt ∧ (s1 x).df = s.df)
    (hcall : ∀ n w, HSat cx n s w → Calls P k (vs.map (AV.c n)).toArray w fun e w' => ∃ x n', (∀ id, id < s.nx → n' id = n id) ∧ e = .returned ((r x).c n') ∧ HSat cx n' (s1 x) w')
    (hK : ∀ x, WPO P cx ops l.tail ((callPN ops s l (s1 x) (r x)).getD s) Q) : WPO P cx ops l s Q := by
  obtain ⟨⟨k', vs', G', d, T⟩, hr', he'⟩ := Option.map_eq_some_iff.1 h
  simp only [Prod.mk.injEq] at he'
  obtain ⟨rfl, rfl, rfl⟩ := he'
  obtain ⟨o, rest, c, x, v, u, cp, vs'', rfl, ho, hg, hc, hv, ht, hvs, rfl, _, rfl⟩ := callA_spec hr'
  intro n a w hs
  have hH : Holds a [] := fun x hx => by cases hx
  have hgt := gTag_sound hs hg
  have hrun := call_run hs.env hs.heap hH ho hc hv ht hvs hgo
  have hca := hcall n w hs.heap
  unfold wpList
  rw [if_pos (hgt.2 hH)]
  left
  unfold Oper.wp
  rw [hrun]
  refine hca.mono fun e w' ⟨x, n', hag, he', hh'⟩ => ?_
  subst he'
  obtain ⟨s', hs'⟩ := Option.isSome_iff_exists.1 (hp x)
  have hK' := hK x
  rw [hs'] at hK'
  simp only [callPN, hr'] at hs'
  obtain ⟨he1, he2, he3⟩ := he x
  have hst : Sat cx n' (s1 x) a w' := by
    refine ⟨hh', by rw [he2]; exact hs.size, fun y hy => ?_, by rw [he3]; exact hs.defers⟩
    rw [he1] at hy
    have := hs.env y hy
    refine ⟨by rw [he2]; exact this.lt, fun hH => ?_, this.no⟩
    obtain ⟨h1, h2⟩ := this.yes hH
    exact ⟨by rw [h1, AV.c_congr h2 hag], AV.ok_more h2 (hm x)⟩
  exact hK' _ _ _ (put_sat hst hs' (fun _ => ⟨rfl, okB_sound (hr x)⟩) (fun hn => absurd hH hn))
theorem CallOk.newR {k : FuncId} {vs : List AV} {r : AV} {e : TypeId} {sz : Nat} {α : Type} {li : List α} {enc : α → List Value} {z : α} (hsz : 0 < sz) (henc : ∀ y, (enc y).length = sz)
    (h : ∀ n w, HSat cx n s w → Calls P k (vs.map (AV.c n)).toArray w fun e w' => ∃ v, e = .returned (r.c (upd n s.nx v)) ∧ Below w.heap.size w w' ∧ Reads w' v sz li enc z ∧ (∀ g, vblk v = some g → 0 < li.length → w.heap.size ≤ g)) :
    CallOk P cx s k vs r (s.add (.sl .ro e sz li enc z)) := fun n w hh => (h n w hh).mono fun e w' ⟨v, h1, h2, h3, h4⟩ =>
  ⟨upd n s.nx v, upd_lt n s.nx v, h1, hh.add h2 h3.one ⟨henc, h3⟩ trivial (fun g ⟨hg1, hg2⟩ => by
    obtain ⟨A, c, rfl, _, _, h5⟩ := h3
    obtain ⟨ad, rfl, hc⟩ := h5 hg2
    have := World.block_lt_of_cell? w' _ (hc 0 hg2 0 hsz)
    rw [add_block] at this
    simp only [vblk, Option.some.injEq] at hg1
    rw [← hg1]; exact this) (fun g ⟨hg1, hg2⟩ => .inl (h4 g hg1 hg2))⟩
end
end Go.Proofs.YtamimgmoomcipaaDoor.Eng
namespace Go.Proofs.YtamimgmoomcipaaDoor.Eng
open Go Go.RowKit
set_option linter.unusedVariables false
set_option linter.unusedSimpArgs false
def noJO : List (Nat × HE) → Bool
  | [] => true
  | (_, .jf ..) :: _ => false
  | (_, .ob ..) :: _ => false
  | _ :: r => noJO r
theorem cells_of_foot {n : Vn} {ok : Nat → Prop} {w : World} : ∀ {l : List (Nat × HE)}, noJO l = true → ∀ x ∈ l, x.2.mut = true → x.2.sat n ok w (n x.1) → ∀ g, x.2.foot (n x.1) g → ∃ a b c, w.heap[g]? = some (.cells a b c) := by
  intro l
  induction l with
  | nil => intro _ x hx; cases hx
  | cons y r ih =>
    intro h x hx hm hs g hg
    rcases List.mem_cons.1 hx with rfl | hx
    · obtain ⟨i, e⟩ := x
      cases e with
      | box ty cs =>
        obtain ⟨g', h1, _, h2⟩ := hs
        simp only [HE.foot] at hg
        rw [h1] at hg; simp only [vblk, Option.some.injEq] at hg; subst hg
        exact ⟨_, _, _, h2⟩
      | lit e m cs =>
        obtain ⟨g', h1, _, _, h2⟩ := hs
        simp only [HE.foot] at hg
        rw [h1] at hg; simp only [vblk, Option.some.injEq] at hg; subst hg
        exact ⟨_, _, _, h2⟩
      | sl kd e sz l enc z =>
        cases kd with
        | own =>
          obtain ⟨_, _, h3⟩ := hs
          simp only [HE.foot] at hg
          rcases h3.2 with ⟨hx, h0⟩ | ⟨g', cap, cur, hx, _, hheap, _⟩
          · simp only at hx; rw [hx] at hg; cases hg
          · simp only at hx; rw [hx] at hg; simp only [vblk, Option.some.injEq] at hg; subst hg
            exact ⟨_, _, _, hheap⟩
        | ro => cases hm
        | full => cases hm
      | clo f a b => cases hm
      | pf F G => cases hm
      | jf F G => cases h
      | ob a b => cases h
    · refine ih ?_ x hx hm hs g hg
      obtain ⟨i, e⟩ := y
      cases e <;> first | exact h | cases h
section
variable {P : Program} {tt : TT} {cx : Cx} {s s' : AS} {Q : Exit → AS → Prop} {ops : Array Oper} {l : List Oper}
theorem HSat.addMaps {n : Vn} {w w' : World} {F : World → Prop} {G : Nat → Prop} (h : HSat cx n s w) (hb : Below w.heap.size w w') (hj : noJO s.hp = true) (hF : F w') (hst : ∀ w1 w2 : World, F w1 → (∀ g, G g → w2.heap[g]? = w1.heap[g]?) → F w2)
    (hG : ∀ g, G g → ∃ es clk, w'.heap[g]? = some (.map es clk)) : HSat cx (upd n s.nx .nilFunc) (s.add (.pf F G)) w' :=
  h.add hb rfl ⟨hF, hst⟩ trivial (fun g hg => by obtain ⟨_, _, h1⟩ := hG g hg; exact (Array.getElem?_eq_some_iff.1 h1).1) fun g hg => by
    by_cases hlt : w.heap.size ≤ g
    · exact .inl hlt
    · refine .inr fun x hx hm hfx => ?_
      have hm' : x.2.mut = true := hm.resolve_left (by simp [HE.mut])
      obtain ⟨a, b, c, h1⟩ := cells_of_foot hj x hx hm' (h.ents x hx) g hfx
      obtain ⟨es, clk, h2⟩ := hG g hg
      rw [hb.block g (by omega), h1] at h2
      cases h2
end
end Go.Proofs.YtamimgmoomcipaaDoor.Eng
namespace Go.Proofs.YtamimgmoomcipaaDoor.Eng
open Go Go.RowKit
set_option linter.unusedVariables false
set_option linter.unusedSimpArgs false
abbrev slE (v : Value) (sz : Nat) {α : Type} (li : List α) (enc : α → List Value) (z : α) : HE := .jf (fun w => Reads w v sz li enc z) (fun g => vblk v = some g)
theorem Reads.stab {w1 w2 : World} {v : Value} {sz : Nat} {α : Type} {li : List α} {enc : α → List Value} {z : α} (h : Reads w1 v sz li enc z) (hw : ∀ g, vblk v = some g → w2.heap[g]? = w1.heap[g]?) : Reads w2 v sz li enc z := by
  obtain ⟨A, c, rfl, h2, h3, h4⟩ := h
  refine ⟨A, c, rfl, h2, h3, fun hp => ?_⟩
  obtain ⟨ad, rfl, hc⟩ := h4 hp
  refine ⟨ad, rfl, fun j hj o ho => ?_⟩
  rw [World.cell?_of_block (w := w1)]
  · exact hc j hj o ho
  · rw [add_block]; exact hw _ rfl
section
variable {P : Program} {tt : TT} {cx : Cx} {s s' : AS} {Q : Exit → AS → Prop} {ops : Array Oper} {l : List Oper}
theorem SLCF (hT : TTok P tt) (id : Nat) (e : TypeId) (sz : Nat) {α : Type} (li : List α) (enc : α → List Value) (z : α) (d : Option Tmp) (h : slcA tt s l = some (id, .own, e, sz, li.length, 0, (li.length : Int), some (li.length : Int), d)) (hf : fnd s.hp id = some (.sl .own e sz li enc z))
    (hp : ∀ v, (AS.put (AS.add { s with hp := rem s.hp id } (slE v sz li enc z)) d [] (.s (.v v))).isSome = true)
    (hK : ∀ v, WPO P cx ops l.tail ((AS.put (AS.add { s with hp := rem s.hp id } (slE v sz li enc z)) d [] (.s (.v v))).getD s) Q) : WPO P cx ops l s Q := by
  cases l with
  | nil => cases h
  | cons o rest =>
    simp only [slcA] at h
    split at h <;> try (cases h; done)
    rename_i t x lo hi mx' ho hg
    split at h <;> try (cases h; done)
    rename_i id' hx
    split at h <;> try (cases h; done)
    rename_i kd' e' sz' α' li' enc' z' hf'
    rcases hb : (isSlK tt t e' && isSz tt e' sz' && (mx'.isNone || hi.isSome)) with _ | _
    · rw [hb] at h; cases h
    · rw [hb] at h
      simp only [Bool.and_eq_true] at hb
      simp only [cond_true] at h
      split at h <;> try (cases h; done)
      rename_i i' j' m' hlo hhi hmx
      simp only [Option.some.injEq, Prod.mk.injEq] at h
      obtain ⟨rfl, rfl, rfl, rfl, _, rfl, rfl, rfl, rfl⟩ := h
      rw [hf] at hf'
      cases hf'
      intro n a w hs
      have hw : Region.wanted o (yielded ops a.tmps) = true := by simp [Region.wanted, hg]
      have hH : Holds a [] := fun x hx => by cases hx
      obtain ⟨tti, htt, htd⟩ := Option.map_eq_some_iff.1 (isSlK_spec hb.1.1)
      obtain ⟨ei, hee, hes⟩ := Option.map_eq_some_iff.1 (isSz_spec hb.1.2)
      obtain ⟨F⟩ := hT.get htt
      obtain ⟨G⟩ := hT.get hee
      have hd : F.desc = .slice e' := by
        have := F.td
        rw [htd] at this
        cases hd : F.desc <;> rw [hd] at this <;> simp only [tdOf] at this <;> first
          | (cases this; done)
          | (injection this with h; rw [h])
      have hr := hs.heap.reads hf
      obtain ⟨A, c, hv, hlc, hcm, hA⟩ := sl_addr hs.heap hf
      obtain ⟨ex, _⟩ := ev_sound hs.env hH hx
      simp only [AV.c, AC.c] at ex
      have hbnd : ∀ (dv : Int) (q : Option Operand) (r : Int), bnd s dv q = some r → bv dv (q.map a.eval) r := fun dv q r hq => by
        cases q with
        | none => simp only [bnd] at hq; cases hq; rfl
        | some q =>
          simp only [bnd] at hq
          split at hq
          · rename_i r' hr'
            cases hq
            obtain ⟨e1, _⟩ := ev_sound hs.env hH hr'
            exact e1
          · cases hq
      have hmv : bv (c : Int) (mx'.map a.eval) (li.length : Int) := by
        cases mx' with
        | none => cases hmx
        | some q =>
          obtain ⟨m, hm, hm2⟩ := Option.map_eq_some_iff.1 hmx
          cases hm2
          exact hbnd 0 (some q) _ hm
      have hrun : (execOp a.eval o).run P w = .ok (.value (.slice (if ((li.length : Nat) : Int).toNat = (0 : Int).toNat then A else A.map (·.add ((0 : Int).toNat * sz'))) (((li.length : Nat) : Int).toNat - (0 : Int).toNat) (((li.length : Nat) : Int).toNat - (0 : Int).toNat))) w := by
        unfold execOp
        rw [ho]
        have hbs := run_bounds (P := P) (w := w) (len := li.length) (cap := c) (lo := lo.map a.eval) (hi := hi.map a.eval) (mx := mx'.map a.eval) (i := 0) (j := (li.length : Int)) (m := (li.length : Int)) (hbnd 0 lo 0 hlo) (hbnd _ hi _ hhi) hmv (by simpa using hb.2) ⟨by omega, by omega, by omega, by omega⟩
        simp only [Instr.sliceAt, ex, hv, Sem.run_bind, run_underlying F.hdesc, hd, Result.andThen_ok, Instr.slice, hbs, run_sizeOf' G, hes, Sem.run_pure]
      have hcr := cut_reads (w := w) (A := A) (c := c) (m := (li.length : Int)) (i := 0) (j := (li.length : Int)) (by rw [← hv]; exact hr) ⟨by omega, by omega, by omega⟩ ⟨by omega, by omega⟩
      have hcut : cut li 0 (li.length : Int) = li := by simp [cut]
      rw [hcut] at hcr
      have hblk : ∀ g, vblk (Value.slice (if ((li.length : Nat) : Int).toNat = (0 : Int).toNat then A else A.map (·.add ((0 : Int).toNat * sz'))) (((li.length : Nat) : Int).toNat - (0 : Int).toNat) (((li.length : Nat) : Int).toNat - (0 : Int).toNat)) = some g → vblk (n id') = some g := by
        rw [hv]
        intro g hg
        cases A with
        | none => split at hg <;> cases hg
        | some ad =>
          split at hg
          · exact hg
          · simpa [vblk, add_block] using hg
      generalize Value.slice (if ((li.length : Nat) : Int).toNat = (0 : Int).toNat then A else A.map (·.add ((0 : Int).toNat * sz'))) (((li.length : Nat) : Int).toNat - (0 : Int).toNat) (((li.length : Nat) : Int).toNat - (0 : Int).toNat) = V at hrun hcr hblk
      have he0 := hs.heap.ents _ (fnd_mem hf)
      have hdis : ∀ x ∈ rem s.hp id', ∀ g, x.2.foot (n x.1) g → vblk (n id') ≠ some g := fun x hx g hg hv => by
        have hsym : ∀ (x y : Nat × HE), ((x.2.mut = true ∨ y.2.mut = true) → ∀ g, x.2.foot (n x.1) g → ¬ y.2.foot (n y.1) g) → ((y.2.mut = true ∨ x.2.mut = true) → ∀ g, y.2.foot (n y.1) g → ¬ x.2.foot (n x.1) g) :=
          fun x y h hm g h1 h2 => h hm.symm g h2 h1
        exact pw_mem hsym hs.heap.sep ((rem_sub s.hp id').subset hx) (fnd_mem hf) (fun e => rem_ne hx (by rw [e])) (.inr rfl) g hg hv
      have hs0 : Sat cx n { s with hp := rem s.hp id' } a w := env_hp hs (rem_more s id') (hs.heap.rem id')
      have hs1 : Sat cx (upd n s.nx .nilFunc) (AS.add { s with hp := rem s.hp id' } (slE V sz' li enc z)) a w :=
        env_add hs0 (upd_lt n s.nx _) (hs0.heap.add (Below.refl _ _) rfl ⟨hcr, fun g hg => he0.2.1 g (hblk g hg), fun w1 w2 h hw => h.stab hw⟩ trivial (fun g hg => hs.heap.lt _ (fnd_mem hf) g (hblk g hg)) (fun g hg => .inr fun x hx _ hxg => hdis x hx g hxg (hblk g hg)))
      obtain ⟨s', hs'⟩ := Option.isSome_iff_exists.1 (hp V)
      have hK' := hK V
      rw [hs'] at hK'
      exact wp_value hw hrun (hK' _ _ _ (put_sat hs1 hs' (fun _ => ⟨rfl, trivial⟩) (fun hn => absurd hH hn)))
theorem CallOk.newO {k : FuncId} {vs : List AV} {r : AV} {e : TypeId} {sz : Nat} {α : Type} {li : List α} {enc : α → List Value} {z : α} (henc : ∀ y, (enc y).length = sz)
    (h : ∀ n w, HSat cx n s w → Calls P k (vs.map (AV.c n)).toArray w fun e' w' => ∃ v, e' = .returned (r.c (upd n s.nx v)) ∧ Below w.heap.size w w' ∧ w'.ownsRow w.heap.size e sz v li.length (flat li enc)) :
    CallOk P cx s k vs r (s.add (.sl .own e sz li enc z)) := fun n w hh => (h n w hh).mono fun e' w' ⟨v, h1, h2, h3⟩ => by
  have hb : ∀ g, vblk v = some g → w.heap.size ≤ g ∧ g < w'.heap.size := fun g hg => by
    rcases h3.2 with ⟨rfl, _⟩ | ⟨g', cap, cur, rfl, hb, hh, _⟩
    · cases hg
    · cases hg; exact ⟨hb, (Array.getElem?_eq_some_iff.1 hh).1⟩
  refine ⟨upd n s.nx v, upd_lt n s.nx v, h1, hh.add h2 ?_ ⟨henc, fun g hg => hh.fr.news g (Nat.le_trans hh.fr.size (hb g hg).1), h3.1, ?_⟩ trivial (fun g hg => (hb g hg).2) (fun g hg => .inl (hb g hg).1)⟩
  · rcases h3.2 with ⟨rfl, _⟩ | ⟨g', cap, cur, rfl, _⟩ <;> rfl
  · exact h3.2.imp (fun h => h) fun ⟨g, cap, cur, h1, _, h3⟩ => ⟨g, cap, cur, h1, Nat.zero_le _, h3⟩
theorem own_of {n0 n : Vn} {w0 w : World} {m : Nat} (h : HSat (cx0 w0 n0 m) n s w) {id : Nat} {e : TypeId} {sz : Nat} {α : Type} {li : List α} {enc : α → List Value} {z : α} (hf : fnd s.hp id = some (.sl .own e sz li enc z)) : w.ownsRow w0.heap.size e sz (n id) li.length (flat li enc) := by
  obtain ⟨_, h2, h3⟩ := h.ents _ (fnd_mem hf)
  refine ⟨h3.1, h3.2.imp (fun h => h) fun ⟨g, cap, cur, h1, _, h4⟩ => ⟨g, cap, cur, h1, ?_, h4⟩⟩
  exact h2 g (by simp only at h1; rw [h1]; rfl)
end
end Go.Proofs.YtamimgmoomcipaaDoor.Eng
namespace Go.Proofs.YtamimgmoomcipaaDoor.Fw
open Go Go.RowKit Go.Proofs.YtamimgmoomcipaaDoor.Eng
set_option linter.unusedVariables false
set_option linter.unusedSimpArgs false
structure CanAt (w : World) (cv : Value) (b : Book) (but : List Int) (maps : List Nat) : Prop where
  len : maps.length = b.ships.length
  reads : Reads w cv 1 maps encM 0
  at' : MapsAt b but maps w
def zeroBook : Array Value := #[.slice none 0 0, .int .i64 0, .int .i64 0, .int .i64 0, .int .i64 0, .int .i64 0, .slice none 0 0, .slice none 0 0]
abbrev zeroA : List AC := [.v (.slice none 0 0), ai 0, ai 0, ai 0, ai 0, ai 0, .v (.slice none 0 0), .v (.slice none 0 0)]
abbrev FXo (g : Nat) (w : World) : Prop := w.heap[g]? = some (.cells zeroBook 94 (0, 0))
theorem opened_calls (sv gv bv : Value) (b : Book) (but : List Int) (w : World) (hb : BookAt w sv gv b) (hbut : Reads w bv 1 but encI 0) (hv : Valid b) :
    Calls Tryd.prog 73 #[bookV sv gv b, bv] w fun e w' => ∃ cv maps, e = .returned (bookV2 sv gv cv b) ∧ Below w.heap.size w w' ∧ CanAt w' cv b but maps ∧ w'.ownsRow w.heap.size 100 1 cv maps.length (flat maps encM) := by
  refine calls_of_WP (cx := cx0 w (vn [sv, gv, bv]) 3) (n := vn [sv, gv, bv]) (vs := [.g (bookA b), .s (.ref 2)]) (hp := [(0, .sl .ro 65 5 b.ships encShip zShip), (1, .sl .ro 70 4 b.sights encSight zSight), (2, .sl .ro 3 1 but encI 0)]) (nx := 3) tt_ok Tryd.func73 rfl rfl rfl (by kernel_rfl)
    (HSat_args (vn_one (by simp [hb.ships.one, hb.sights.one, hbut.one])) (Nat.le_refl _) ⟨⟨⟨fun _ => rfl, by decide, hb.ships⟩, (Nat.le_of_ble_eq_true rfl)⟩, ⟨⟨fun _ => rfl, by decide, hb.sights⟩, (Nat.le_of_ble_eq_true rfl)⟩, ⟨⟨fun _ => rfl, by decide, hbut⟩, (Nat.le_of_ble_eq_true rfl)⟩, trivial⟩) (vsOk (by kernel_rfl)) ?_
  refine WP_seq (WP_region (WPO_all tt_ok (by kernel_rfl) ?_))
  refine WP_seq (WP_region (WPO_all tt_ok (by kernel_rfl) ?_))
  refine WP_seq (WP_region (WPO_all tt_ok (by kernel_rfl) ?_))
  refine WP_seq (WP_region (WPO_all tt_ok (by kernel_rfl) ?_))
  refine WP_le (s' := ⟨13, [(4, [], .s (.p 5 0)), (5, [], .s (.p 6 0)), (6, [], .s (.p 7 0))], [(8, .clo 103 [] [.s (.p 3 0), .s (.p 6 0), .s (.p 4 0), .s (.p 7 0)]), (7, .box 129 [.ref 8]), (6, .box 94 [.ref 0, ai b.hear.lo, ai b.hear.hi, ai b.br, ai b.cr, ai b.sl, .ref 1, .v (.slice none 0 0)]), (5, .box 94 zeroA), (4, .box 37 [.ref 2]), (3, .box 27 (bookA b)), (0, .sl .ro 65 5 b.ships encShip zShip), (1, .sl .ro 70 4 b.sights encSight zSight), (2, .sl .ro 3 1 but encI 0)], 9, []⟩) (Le_sel (ts := [4, 5, 6]) (ids := [8, 7, 6, 5, 4, 3, 0, 1, 2]) (nx := 9) (by kernel_rfl)) ?_
  refine WP_unbox (id := 5) (ty := 94) (cs := zeroA) (by kernel_rfl) zeroBook (fun n => rfl) (fun g => ?_)
  refine WP_le (Le_nil (id := 6) (j := 7) (ty := 94) (e := 100) (cs := [.ref 0, ai b.hear.lo, ai b.hear.hi, ai b.br, ai b.cr, ai b.sl, .ref 1, .v (.slice none 0 0)]) (by kernel_rfl) (by kernel_rfl) (sz := 1) encM 0 (fun _ => rfl) (by kernel_rfl)) ?_
  refine WP_le (Le_addpf (MapsAt b but []) (fun q => q ∈ ([] : List Nat)) (fun w q hq => (by simp at hq)) (fun g hg => (by simp at hg))) ?_
  refine WP_le (s' := ⟨13, [(4, [], .s (.v (.pointer (some ⟨g, 0, none⟩)))), (5, [], .s (.p 4 0)), (6, [], .s (.p 6 0))], hpO b but [] (FXo g) (· = g), 11, []⟩) ?_ ?_
  · exact Le_ren [(4, 6), (5, 4), (6, 7), (7, 8), (8, 9), (9, 10), (10, 5)] ⟨by kernel_rfl, by kernel_rfl, by kernel_rfl, by kernel_rfl, by kernel_rfl, by kernel_rfl, by kernel_rfl, by kernel_rfl, by kernel_rfl, by kernel_rfl, by kernel_rfl, trivial⟩ ⟨by kernel_rfl, rfl, by kernel_rfl, by kernel_rfl, rfl, by kernel_rfl, by kernel_rfl, rfl, by kernel_rfl, trivial⟩ (by kernel_rfl) (by kernel_rfl) (rnm_id (m := 3) (by kernel_rfl)) (by show 3 ≤ 11; decide) (by kernel_rfl) (by kernel_rfl)
  refine WP_seq (WP_region (WPO_run tt_ok 1 (by kernel_rfl) ?_))
  refine CALLF (σ := { m : List Nat // m.length = b.ships.length }) 103 [.s (ai 0), .s (.p 3 0), .s (.p 4 0), .s (.p 5 0), .s (.p 6 0)] 8 11 (fun m => ⟨13, [(4, [], .s (.v (.pointer (some ⟨g, 0, none⟩)))), (5, [], .s (.p 4 0))], hpO b but m.1 (FXo g) (· = g), 11, []⟩) (by kernel_rfl) (goes_of (by kernel_rfl)) (fun m => rfl) (fun m => ⟨⟨by kernel_rfl, rfl, by kernel_rfl, by kernel_rfl, rfl, by kernel_rfl, trivial⟩, by kernel_rfl, by kernel_rfl, by kernel_rfl⟩) (fun n w1 h => ?call) (fun m => ?_)
  case call =>
    have h2 := wp_hp (s2 := ⟨0, [], hpO b but [] (FXo g) (· = g), 11, []⟩) h ⟨by kernel_rfl, by kernel_rfl, by kernel_rfl, by kernel_rfl, by kernel_rfl, by kernel_rfl, by kernel_rfl, by kernel_rfl, by kernel_rfl, by kernel_rfl, by kernel_rfl, trivial⟩ (by kernel_rfl) (by kernel_rfl) (by show 3 ≤ 11; decide)
    have := opened1_calls b but hv b.ships.length 0 [] (FXo g) (· = g) (by omega) rfl _ n w1 (by show 3 ≤ 8; decide) h2
    exact this.mono fun e w' ⟨he, n', m, hag, hml, hm'⟩ => ⟨⟨m, hml⟩, n', ⟨_, he⟩, hag, hm'.slots⟩
  refine WPO_end (by kernel_rfl) ?_
  refine WP_le (s' := ⟨13, [(4, [], .s (.p 11 0)), (5, [], .s (.p 4 0))], (11, .box 94 zeroA) :: rem (hpO b but m.1 (FXo g) (· = g)) 10, 12, []⟩) ?_ ?_
  · refine Le_rebox (id := 10) (g := g) (ty := 94) (cs := zeroA) (vs := zeroBook) (by kernel_rfl) (fun n => rfl) (fun s0 c hc => by simp at hc; rcases hc with rfl | rfl | rfl | rfl | rfl | rfl | rfl | rfl <;> trivial) [] _ (fun x hx => ?_)
    rcases List.mem_cons.1 hx with rfl | hx
    · exact .inr ⟨0, by kernel_rfl, rfl⟩
    · rw [List.mem_singleton.1 hx]; exact .inl ⟨by kernel_rfl, by kernel_rfl⟩
  refine WP_seq (WP_region (WPO_all tt_ok (by kernel_rfl) ?_))
  refine WP_ret ?_
  refine ⟨.g (bookK b), by kernel_rfl, fun n1 w' h => ⟨n1 8, m.1, ?_, h.bel, ⟨m.2, ?_, ?_⟩, own_of (z := 0) (id := 8) h (by kernel_rfl)⟩⟩
  · have h0 : n1 0 = sv := h.ini 0 (by show 0 < 3; decide)
    have h1 : n1 1 = gv := h.ini 1 (by show 1 < 3; decide)
    show Ending.returned (.agg #[n1 0, iv b.hear.lo, iv b.hear.hi, iv b.br, iv b.cr, iv b.sl, n1 1, n1 8]) = _
    rw [h0, h1]; rfl
  · exact h.reads (id := 8) (kd := .own) (e := 100) (by kernel_rfl)
  · exact (h.ents (9, pfC b but m.1) (fnd_mem (by kernel_rfl))).1
end Go.Proofs.YtamimgmoomcipaaDoor.Fw
namespace Go.Proofs.YtamimgmoomcipaaDoor.Fw
open Go Go.RowKit Go.Proofs.YtamimgmoomcipaaDoor.Eng
set_option linter.unusedVariables false
set_option linter.unusedSimpArgs false
theorem isTrue1_calls (g : Nat) (es : Array MapEntry) (clk : Nat) (w : World) (hm : w.heap[g]? = some (.map es clk)) : Calls Tryd.prog 107 #[.map (some g)] w fun e w' => e = .returned (.bool ((es.size : Int) == 0)) ∧ Below w.heap.size w w' := by
  refine calls_of_WP (cx := cx0 w Eng.n0 0) (n := Eng.n0) (vs := [.s (.v (.map (some g)))]) (hp := [(0, .pf (fun w => w.heap[g]? = some (.map es clk)) (· = g))]) (nx := 1) tt_ok Tryd.func107 rfl rfl rfl (by kernel_rfl)
    (HSat_args (fun _ => rfl) (by decide) ⟨⟨⟨hm, fun w1 w2 h hw => (hw g rfl).trans h, fun q hq => by cases hq; exact (Array.getElem?_eq_some_iff.1 hm).1⟩, Nat.zero_lt_one⟩, trivial⟩) (vsOk (by kernel_rfl)) ?_
  refine WP_seq (WP_region (WPO_all tt_ok (by kernel_rfl) ?_))
  refine WP_seq (WP_region (WPO_run tt_ok 1 (by kernel_rfl) ?_))
  refine MLEN tt_ok (.s (.v (.map (some g)))) [] es.size (by kernel_rfl) (fun _ n w h => ⟨g, es, clk, rfl, (h.ents (0, .pf (fun w => w.heap[g]? = some (.map es clk)) (· = g)) (fnd_mem (by kernel_rfl))).1, rfl⟩) (by kernel_rfl) ?_
  refine WPO_all tt_ok (by kernel_rfl) ?_
  refine WP_ret ?_
  exact ⟨.s (.bool ((es.size : Int) == 0)), by kernel_rfl, fun n w' h => ⟨rfl, h.bel⟩⟩
end Go.Proofs.YtamimgmoomcipaaDoor.Fw
namespace Go.Proofs.YtamimgmoomcipaaDoor.Fw
open Go Go.RowKit Go.Proofs.YtamimgmoomcipaaDoor.Eng
set_option linter.unusedVariables false
set_option linter.unusedSimpArgs false
theorem MapsAt.get {b : Book} {but : List Int} {maps : List Nat} {w : World} (h : MapsAt b but maps w) {q : Nat} (hq : q < maps.length) : w.heap[maps.getD q 0]? = some (.map (ents (coursesF b q but) ekC (exC b q)) (coursesF b q but).length) := by
  rw [List.getD_eq_getElem?_getD, List.getElem?_eq_getElem hq]
  exact h q hq
theorem ents_size {κ : Type} (L : List κ) (ek ex : κ → Value) : (ents L ek ex).size = L.length := by simp [ents]
def noneL (b : Book) (but : List Int) (m : Nat) : List Bool := (List.range m).map fun q => decide (coursesF b q but = [])
theorem HSat_can {w : World} {cv : Value} {b : Book} {but : List Int} {maps : List Nat} (h : CanAt w cv b but maps) {nt : Nat} {e : List (Nat × List (Nat × Bool) × AV)} : HSat (cx0 w (vn [cv]) 1) (vn [cv]) ⟨nt, e, [(0, .sl .ro 100 1 maps encM 0), (1, pfC b but maps)], 2, []⟩ w :=
  HSat_args (vn_one (by simp [h.reads.one])) (by decide) ⟨⟨⟨fun _ => rfl, by decide, h.reads⟩, (Nat.le_of_ble_eq_true rfl)⟩, ⟨⟨h.at', fun w1 w2 h1 hw => h1.stab hw, fun g hg => by
    obtain ⟨q, hq, rfl⟩ := List.mem_iff_getElem.1 hg
    exact (Array.getElem?_eq_some_iff.1 (h.at' q hq)).1⟩, (Nat.le_of_ble_eq_true rfl)⟩, trivial⟩
theorem indexFunc_calls (cv : Value) (b : Book) (but : List Int) (maps : List Nat) (w : World) (h : CanAt w cv b but maps) : Calls Tryd.prog 118 #[cv, .func (.func 107) #[] #[]] w fun e w' => e = .returned (iv (idxB (noneL b but maps.length) true)) ∧ Below w.heap.size w w' := by
  refine calls_of_WP (cx := cx0 w (vn [cv]) 1) (n := vn [cv]) (vs := [.s (.ref 0), .s (.v (.func (.func 107) #[] #[]))]) (hp := [(0, .sl .ro 100 1 maps encM 0), (1, pfC b but maps)]) (nx := 2) tt_ok Tryd.func118 rfl rfl rfl (by kernel_rfl) (HSat_can h) (vsOk (by kernel_rfl)) ?_
  refine WP_seq (WP_region (WPO_all tt_ok (by kernel_rfl) ?_))
  refine WP_seq (WP_seq (WP_region (WPO_all tt_ok (by kernel_rfl) ?_)))
  refine WP_block (WP_loop (σ := Int) (fun zz => ⟨19, [(8, [], .s (.int .i64 zz)), (7, [], .s (.int .i64 (maps.length : Int))), (0, [], .s (.ref 0)), (1, [], .s (.v (.func (.func 107) #[] #[])))], [(0, .sl .ro 100 1 maps encM 0), (1, pfC b but maps)], 2, []⟩) (fun zz => ∃ k : Nat, k ≤ maps.length ∧ zz = k ∧ ∀ j, j < k → coursesF b j but ≠ []) (fun zz => maps.length - zz.toNat) 0 (⟨0, by omega, rfl, fun j h => by omega⟩) (Le_sel (ts := [8, 7, 0, 1]) (ids := [0, 1]) (nx := 2) (by kernel_rfl)) ?_)
  rintro i hinv
  obtain ⟨k, hk, hi, hno⟩ := hinv
  subst hi
  have hl := Reads.len h.reads
  refine WP_seq (WP_region (WPO_all tt_ok (by kernel_rfl) ?_))
  refine WP_seq (WP_cond (decide ((k : Int) < (maps.length : Int))) (by kernel_rfl) (fun hc1 => ?_) (fun hc1 => ?_))
  · have hc1 := of_decide_eq_true hc1
    refine WP_skip ?_
    refine WP_seq (WP_block ?_)
    refine WP_seq (WP_region (WPO_all tt_ok (by kernel_rfl) ?_))
    refine WP_seq (WP_region (WPO_run tt_ok 3 (by kernel_rfl) ?_))
    refine IX tt_ok (k : Int) maps.length [] (by kernel_rfl) (fun _ => ⟨by omega, by omega⟩) ?_
    refine WPO_run tt_ok 1 (by kernel_rfl) ?_
    refine CALL 107 [.s (.v (.map (some (maps.getD k 0))))] (.s (.bool (((ents (coursesF b k but) ekC (exC b k)).size : Int) == 0))) [] (by kernel_rfl) (goes_of (by kernel_rfl)) (by kernel_rfl) (by kernel_rfl) (fun _ n w h1 => isTrue1_calls _ _ _ w ((h1.ents (1, pfC b but maps) (fnd_mem (by kernel_rfl))).1.get (by omega))) ?_
    refine WPO_nil ?_
    refine WP_cond (((ents (coursesF b k but) ekC (exC b k)).size : Int) == 0) (by kernel_rfl) (fun hc2 => ?_) (fun hc2 => ?_)
    · refine WP_seq (WP_region (WPO_all tt_ok (by kernel_rfl) ?_))
      refine WP_ret ?_
      exact ⟨.s (ai k), by kernel_rfl, fun n w' h => ⟨by rw [idxB_some (l := noneL b but maps.length) (k := k) (by simp [noneL]; omega) (fun j hj => by simp [noneL]; exact hno j hj) (by simp only [noneL, List.getElem_map, List.getElem_range]; rw [ents_size] at hc2; have := eq_of_beq hc2; exact (decide_eq_true (List.eq_nil_of_length_eq_zero (by omega))).symm)]; rfl, h.bel⟩⟩
    refine WP_skip ?_
    refine WP_region (WPO_all tt_ok (by kernel_rfl) ?_)
    refine ⟨IntKind.i64.wrap ((k : Int) + 1), ?_, ?_, Le_sel (ts := [8, 7, 0, 1]) (ids := [0, 1]) (nx := 2) (by kernel_rfl)⟩
    · refine ⟨k + 1, by omega, by rw [wrapI (by omega) (by omega)]; rfl, fun j hj => ?_⟩
      by_cases e : j = k
      · subst e; intro he; rw [ents_size, he] at hc2; exact absurd hc2 (by decide)
      · exact hno j (by omega)
    · rw [wrapI (by omega) (by omega)]
      omega
  have hc1 := of_decide_eq_false hc1
  refine WP_exit ?_
  obtain rfl : k = maps.length := by omega
  refine WP_seq (WP_region (WPO_all tt_ok (by kernel_rfl) ?_))
  refine WP_ret ?_
  exact ⟨.s (ai (-1)), by kernel_rfl, fun n w' h => ⟨by rw [idxB_none (l := noneL b but maps.length) fun j hj => by simp [noneL] at hj ⊢; exact hno j hj]; rfl, h.bel⟩⟩
theorem HSat_toCan {cx : Cx} {n : Vn} {s : AS} {w : World} {b : Book} {but : List Int} {maps : List Nat} (i j : Nat) (hl : maps.length = b.ships.length) (h : HSat cx n s w) (h0 : fnd s.hp i = some (.sl .ro 100 1 maps encM 0)) (h1 : fnd s.hp j = some (pfC b but maps)) : CanAt w (n i) b but maps := ⟨hl, h.reads h0, (h.ents _ (fnd_mem h1)).1⟩
theorem containsFunc_calls (cv : Value) (b : Book) (but : List Int) (maps : List Nat) (w : World) (h : CanAt w cv b but maps) : Calls Tryd.prog 106 #[cv, .func (.func 107) #[] #[]] w fun e w' => e = .returned (.bool (decide (idxB (noneL b but maps.length) true ≥ 0))) ∧ Below w.heap.size w w' := by
  refine calls_of_WP (cx := cx0 w (vn [cv]) 1) (n := vn [cv]) (vs := [.s (.ref 0), .s (.v (.func (.func 107) #[] #[]))]) (hp := [(0, .sl .ro 100 1 maps encM 0), (1, pfC b but maps)]) (nx := 2) tt_ok Tryd.func106 rfl rfl rfl (by kernel_rfl) (HSat_can h) (vsOk (by kernel_rfl)) ?_
  refine WP_seq (WP_region (WPO_all tt_ok (by kernel_rfl) ?_))
  refine WP_seq (WP_region (WPO_run tt_ok 2 (by kernel_rfl) ?_))
  refine CALL 118 [.s (.ref 0), .s (.v (.func (.func 107) #[] #[]))] (.s (.int .i64 (idxB (noneL b but maps.length) true))) [] (by kernel_rfl) (goes_of (by kernel_rfl)) (by kernel_rfl) (by kernel_rfl) (fun _ n w h1 => indexFunc_calls (n 0) b but maps w (HSat_toCan 0 1 h.len h1 (by kernel_rfl) (by kernel_rfl))) ?_
  refine WPO_all tt_ok (by kernel_rfl) ?_
  refine WP_ret ?_
  exact ⟨.s (.bool (decide ((idxB (noneL b but maps.length) true) ≥ 0))), by kernel_rfl, fun n w' h => ⟨rfl, h.bel⟩⟩
def isTrueF (b : Book) (but : List Int) : Bool := (List.range b.ships.length).all fun q => decide (coursesF b q but ≠ [])
theorem isTrue_eq {b : Book} {but : List Int} {m : Nat} (hm : m = b.ships.length) : (!decide (idxB (noneL b but m) true ≥ 0)) = isTrueF b but := by
  subst hm
  rw [Bool.eq_iff_iff]
  simp only [ge_iff_le, idxB_nonneg, Bool.not_eq_true', decide_eq_false_iff_not, isTrueF, List.all_eq_true, List.mem_range, decide_eq_true_eq, noneL, List.mem_map]
  constructor
  · intro h q hq he; exact h ⟨q, hq, he⟩
  · rintro h ⟨q, hq, he⟩; exact h q hq (he)
theorem HSat_bookM {w : World} {sv gv cv : Value} {b : Book} {but : List Int} {maps : List Nat} (hb : BookAt w sv gv b) (h : CanAt w cv b but maps) {nt : Nat} {e : List (Nat × List (Nat × Bool) × AV)} : HSat (cx0 w (vn [sv, gv, cv]) 3) (vn [sv, gv, cv]) ⟨nt, e, hpB b ++ [(2, .sl .ro 100 1 maps encM 0), (3, pfC b but maps)], 4, []⟩ w :=
  HSat_args (vn_one (by simp [hb.ships.one, hb.sights.one, h.reads.one])) (by decide) ⟨⟨⟨fun _ => rfl, by decide, hb.ships⟩, (Nat.le_of_ble_eq_true rfl)⟩, ⟨⟨fun _ => rfl, by decide, hb.sights⟩, (Nat.le_of_ble_eq_true rfl)⟩, ⟨⟨fun _ => rfl, by decide, h.reads⟩, (Nat.le_of_ble_eq_true rfl)⟩, ⟨⟨h.at', fun w1 w2 h1 hw => h1.stab hw, fun g hg => by
    obtain ⟨q, hq, rfl⟩ := List.mem_iff_getElem.1 hg
    exact (Array.getElem?_eq_some_iff.1 (h.at' q hq)).1⟩, (Nat.le_of_ble_eq_true rfl)⟩, trivial⟩
theorem isTrue_calls (sv gv cv : Value) (b : Book) (but : List Int) (maps : List Nat) (w : World) (hb : BookAt w sv gv b) (h : CanAt w cv b but maps) : Calls Tryd.prog 74 #[bookV2 sv gv cv b] w fun e w' => e = .returned (.bool (isTrueF b but)) ∧ Below w.heap.size w w' := by
  refine calls_of_WP (cx := cx0 w (vn [sv, gv, cv]) 3) (n := vn [sv, gv, cv]) (vs := [.g (bookC b)]) (hp := hpB b ++ [(2, .sl .ro 100 1 maps encM 0), (3, pfC b but maps)]) (nx := 4) tt_ok Tryd.func74 rfl rfl rfl (by kernel_rfl) (HSat_bookM hb h) (vsOk (by kernel_rfl)) ?_
  refine WP_seq (WP_region (WPO_all tt_ok (by kernel_rfl) ?_))
  refine WP_seq (WP_region (WPO_run tt_ok 2 (by kernel_rfl) ?_))
  refine CALL 106 [.s (.ref 2), .s (.v (.func (.func 107) #[] #[]))] (.s (.bool (decide (idxB (noneL b but maps.length) true ≥ 0)))) [] (by kernel_rfl) (goes_of (by kernel_rfl)) (by kernel_rfl) (by kernel_rfl) (fun _ n w h1 => containsFunc_calls (n 2) b but maps w (HSat_toCan 2 3 h.len h1 (by kernel_rfl) (by kernel_rfl))) ?_
  refine WPO_all tt_ok (by kernel_rfl) ?_
  refine WP_ret ?_
  exact ⟨.s (.bool (!(decide (idxB (noneL b but maps.length) true ≥ 0)))), by kernel_rfl, fun n w' h2 => ⟨by rw [isTrue_eq h.len]; rfl, h2.bel⟩⟩
end Go.Proofs.YtamimgmoomcipaaDoor.Fw
namespace Go.Proofs.YtamimgmoomcipaaDoor.Fw
open Go Go.RowKit Go.Proofs.YtamimgmoomcipaaDoor.Eng
set_option linter.unusedVariables false
set_option linter.unusedSimpArgs false
abbrev pkC (c : Int × Int) : Bool × List AC := (true, [ai c.1, ai c.2])
abbrev pxC (b : Book) (k : Nat) (c : Int × Int) : Bool × List AC := (true, arrB 201 (nearF b k c.1 c.2))
def someF (b : Book) (but : List Int) (k first many : Nat) : Bool := (coursesF b k but).any fun c => hitF (nearF b k c.1 c.2) first many
def eachF (b : Book) (but : List Int) (k first many : Nat) : Bool := (coursesF b k but).all fun c => hitF (nearF b k c.1 c.2) first many
theorem some_no {b : Book} {but : List Int} {k first many : Nat} {sn : List Nat} (h : ∀ j ∈ sn, ∀ y, (coursesF b k but)[j]? = some y → hitF (nearF b k y.1 y.2) first many = false) (ha : ∀ i, i < (coursesF b k but).length → i ∈ sn) : someF b but k first many = false := by
  simp only [someF, List.any_eq_false]
  intro x hx
  obtain ⟨i, hi, rfl⟩ := List.mem_iff_getElem.1 hx
  rw [h i (ha i hi) _ (List.getElem?_eq_getElem hi)]
  decide
theorem some_yes {b : Book} {but : List Int} {k first many i : Nat} {x : Int × Int} (hx : (coursesF b k but)[i]? = some x) (h : hitF (nearF b k x.1 x.2) first many = true) : someF b but k first many = true := by
  simp only [someF, List.any_eq_true]
  exact ⟨x, List.mem_of_getElem? hx, h⟩
theorem each_yes {b : Book} {but : List Int} {k first many : Nat} {sn : List Nat} (h : ∀ j ∈ sn, ∀ y, (coursesF b k but)[j]? = some y → hitF (nearF b k y.1 y.2) first many = true) (ha : ∀ i, i < (coursesF b k but).length → i ∈ sn) : eachF b but k first many = true := by
  simp only [eachF, List.all_eq_true]
  intro x hx
  obtain ⟨i, hi, rfl⟩ := List.mem_iff_getElem.1 hx
  exact h i (ha i hi) _ (List.getElem?_eq_getElem hi)
theorem each_no {b : Book} {but : List Int} {k first many i : Nat} {x : Int × Int} (hx : (coursesF b k but)[i]? = some x) (h : (!hitF (nearF b k x.1 x.2) first many) = true) : eachF b but k first many = false := by
  rw [Bool.eq_false_iff]
  intro he
  simp only [eachF, List.all_eq_true] at he
  rw [he x (List.mem_of_getElem? hx)] at h
  cases h
theorem hit_callsA (n : Vn) (f : Nat → Bool) (first many : Nat) (w : World) (h1 : first + many ≤ 201) : Calls Tryd.prog 108 (([.g (arrB 201 f), .g [ai first, ai many]] : List AV).map (AV.c n)).toArray w fun e w' => e = .returned (.bool (hitF f first many)) ∧ Below w.heap.size w w' := by
  have := hit_calls f first many w h1
  rw [← arrB_c n] at this
  exact this
theorem some_calls (sv gv cv : Value) (b : Book) (but : List Int) (maps : List Nat) (k first many : Nat) (w : World) (hb : BookAt w sv gv b) (hm : CanAt w cv b but maps) (hk : k < b.ships.length) (h1 : first + many ≤ 201) : Calls Tryd.prog 81 #[bookV2 sv gv cv b, iv k, .agg #[iv first, iv many]] w fun e w' => e = .returned (.bool (someF b but k first many)) ∧ Below w.heap.size w w' := by
  refine calls_of_WP (cx := cx0 w (vn [sv, gv, cv]) 3) (n := vn [sv, gv, cv]) (vs := [.g (bookC b), .s (.int .i64 (k : Int)), .g [.int .i64 (first : Int), .int .i64 (many : Int)]]) (hp := hpB b ++ [(2, .sl .ro 100 1 maps encM 0), (3, pfC b but maps)]) (nx := 4) tt_ok Tryd.func81 rfl rfl rfl (by kernel_rfl) (HSat_bookM hb hm) (vsOk (by kernel_rfl)) ?_
  have hl := Reads.len hm.reads
  have hml := hm.len
  refine WP_seq (WP_region (WPO_all tt_ok (by kernel_rfl) ?_))
  refine WP_seq (WP_seq (WP_region (WPO_run tt_ok 3 (by kernel_rfl) ?_)))
  refine IX tt_ok (k : Int) maps.length [] (by kernel_rfl) (fun _ => ⟨by omega, by omega⟩) ?_
  refine WPO_run tt_ok 1 (by kernel_rfl) ?_
  refine RNG tt_ok (coursesF b k but) ekC (exC b k) (.s (.v (.map (some (maps.getD k 0))))) (maps.getD k 0) (some 14) (by kernel_rfl) (fun n w h => ⟨rfl, (h.ents (3, pfC b but maps) (fnd_mem (by kernel_rfl))).1.get (by omega)⟩) (by kernel_rfl) ?_
  refine WPO_nil ?_
  refine WP_block (WP_loop (σ := List Nat) (fun zz => ⟨22, [(14, [], .s (.ref 6)), (5, [], .s (.p 5 0))], [(6, .ob false (.mapIter (some (maps.getD k 0)) (coursesF b k but).length (zz : List Nat).toArray (coursesF b k but).length)), (5, .box 107 [.int .i64 (first : Int), .int .i64 (many : Int)]), (4, .box 94 [.ref 0, .int .i64 b.hear.lo, .int .i64 b.hear.hi, .int .i64 b.br, .int .i64 b.cr, .int .i64 b.sl, .ref 1, .ref 2]), (0, .sl .ro 65 5 b.ships encShip zShip), (1, .sl .ro 70 4 b.sights encSight zSight), (2, .sl .ro 100 1 maps encM 0), (3, pfC b but maps)], 7, []⟩) (fun zz => ∀ j ∈ zz, ∀ y, (coursesF b k but)[j]? = some y → hitF (nearF b k y.1 y.2) first many = false) (fun zz => left (coursesF b k but).length zz) [] (fun j hj => by cases hj) (Le_sel (ts := [14, 5]) (ids := [6, 5, 4, 0, 1, 2, 3]) (nx := 7) (by kernel_rfl)) ?_)
  rintro sn hinv
  refine WP_seq (WP_region (NXT (coursesF b k but) ekC (exC b k) pkC (pxC b k) 6 (maps.getD k 0) sn (some 15) (by kernel_rfl) (by kernel_rfl) (fun n w h => (h.ents (3, pfC b but maps) (fnd_mem (by kernel_rfl))).1.get (by omega)) (fun _ n => ⟨rfl, arrB_c _ _ _⟩) (fun _ _ => ⟨ints_ok _ _ _, arrB_ok _ _ _⟩) (by kernel_rfl) (fun hall5 => ?_) (fun _ _ => (by kernel_rfl)) (fun ei1 ex2 hx3 hn4 => ?_)))
  · refine WPO_all tt_ok (by kernel_rfl) ?_
    refine WP_seq (WP_cond (false) (by kernel_rfl) (fun h => by cases h) (fun hc6 => ?_))
    refine WP_exit ?_
    refine WP_seq (WP_region (WPO_all tt_ok (by kernel_rfl) ?_))
    refine WP_ret ?_
    exact ⟨.s (.bool false), by kernel_rfl, fun n w' h => ⟨by rw [some_no hinv hall5]; rfl, h.bel⟩⟩
  refine WPO_all tt_ok (by kernel_rfl) ?_
  refine WP_seq (WP_cond (true) (by kernel_rfl) (fun hc7 => ?_) (fun h => by cases h))
  refine WP_skip ?_
  refine WP_block ?_
  refine WP_seq (WP_region (ENT (coursesF b k but) ekC (exC b k) pkC (pxC b k) 6 (maps.getD k 0) sn ei1 ex2 (some 17) (by kernel_rfl) (by kernel_rfl) (fun n w h => (h.ents (3, pfC b but maps) (fnd_mem (by kernel_rfl))).1.get (by omega)) hx3 (fun n => ⟨rfl, arrB_c _ _ _⟩) (⟨ints_ok _ _ _, arrB_ok _ _ _⟩) (by kernel_rfl) ?_))
  refine WPO_all tt_ok (by kernel_rfl) ?_
  refine WP_seq (WP_region (WPO_run tt_ok 2 (by kernel_rfl) ?_))
  refine CALL 108 [.g (arrB 201 (nearF b k ex2.1 ex2.2)), .g [.int .i64 (first : Int), .int .i64 (many : Int)]] (.s (.bool (hitF (nearF b k ex2.1 ex2.2) first many))) [] (by kernel_rfl) (goes_of (by kernel_rfl)) (by kernel_rfl) (by kernel_rfl) (fun _ n w h => hit_callsA n _ _ _ w h1) ?_
  refine WPO_nil ?_
  refine WP_cond (hitF (nearF b k ex2.1 ex2.2) first many) (by kernel_rfl) (fun hc8 => ?_) (fun hc8 => ?_)
  · refine WP_seq (WP_region (WPO_all tt_ok (by kernel_rfl) ?_))
    refine WP_ret ?_
    exact ⟨.s (.bool true), by kernel_rfl, fun n w' h => ⟨by rw [some_yes hx3 hc8]; rfl, h.bel⟩⟩
  refine WP_skip ?_
  refine ⟨sn ++ [ei1], ?_, ?_, Le_sel (ts := [14, 5]) (ids := [6, 5, 4, 0, 1, 2, 3]) (nx := 7) (by kernel_rfl)⟩
  · refine fun j hj y hy => (List.mem_append.1 hj).elim (fun h => hinv j h y hy) (fun h => ?_)
    rw [List.mem_singleton.1 h, hx3] at hy
    cases hy
    simpa using hc8
  · exact left_lt (List.getElem?_eq_some_iff.1 hx3).1 hn4
theorem each_calls (sv gv cv : Value) (b : Book) (but : List Int) (maps : List Nat) (k first many : Nat) (w : World) (hb : BookAt w sv gv b) (hm : CanAt w cv b but maps) (hk : k < b.ships.length) (h1 : first + many ≤ 201) : Calls Tryd.prog 139 #[bookV2 sv gv cv b, iv k, .agg #[iv first, iv many]] w fun e w' => e = .returned (.bool (eachF b but k first many)) ∧ Below w.heap.size w w' := by
  refine calls_of_WP (cx := cx0 w (vn [sv, gv, cv]) 3) (n := vn [sv, gv, cv]) (vs := [.g (bookC b), .s (.int .i64 (k : Int)), .g [.int .i64 (first : Int), .int .i64 (many : Int)]]) (hp := hpB b ++ [(2, .sl .ro 100 1 maps encM 0), (3, pfC b but maps)]) (nx := 4) tt_ok Tryd.func139 rfl rfl rfl (by kernel_rfl) (HSat_bookM hb hm) (vsOk (by kernel_rfl)) ?_
  have hl := Reads.len hm.reads
  have hml := hm.len
  refine WP_seq (WP_region (WPO_all tt_ok (by kernel_rfl) ?_))
  refine WP_seq (WP_seq (WP_region (WPO_run tt_ok 3 (by kernel_rfl) ?_)))
  refine IX tt_ok (k : Int) maps.length [] (by kernel_rfl) (fun _ => ⟨by omega, by omega⟩) ?_
  refine WPO_run tt_ok 1 (by kernel_rfl) ?_
  refine RNG tt_ok (coursesF b k but) ekC (exC b k) (.s (.v (.map (some (maps.getD k 0))))) (maps.getD k 0) (some 14) (by kernel_rfl) (fun n w h => ⟨rfl, (h.ents (3, pfC b but maps) (fnd_mem (by kernel_rfl))).1.get (by omega)⟩) (by kernel_rfl) ?_
  refine WPO_nil ?_
  refine WP_block (WP_loop (σ := List Nat) (fun zz => ⟨23, [(14, [], .s (.ref 6)), (5, [], .s (.p 5 0))], [(6, .ob false (.mapIter (some (maps.getD k 0)) (coursesF b k but).length (zz : List Nat).toArray (coursesF b k but).length)), (5, .box 107 [.int .i64 (first : Int), .int .i64 (many : Int)]), (4, .box 94 [.ref 0, .int .i64 b.hear.lo, .int .i64 b.hear.hi, .int .i64 b.br, .int .i64 b.cr, .int .i64 b.sl, .ref 1, .ref 2]), (0, .sl .ro 65 5 b.ships encShip zShip), (1, .sl .ro 70 4 b.sights encSight zSight), (2, .sl .ro 100 1 maps encM 0), (3, pfC b but maps)], 7, []⟩) (fun zz => ∀ j ∈ zz, ∀ y, (coursesF b k but)[j]? = some y → hitF (nearF b k y.1 y.2) first many = true) (fun zz => left (coursesF b k but).length zz) [] (fun j hj => by cases hj) (Le_sel (ts := [14, 5]) (ids := [6, 5, 4, 0, 1, 2, 3]) (nx := 7) (by kernel_rfl)) ?_)
  rintro sn hinv
  refine WP_seq (WP_region (NXT (coursesF b k but) ekC (exC b k) pkC (pxC b k) 6 (maps.getD k 0) sn (some 15) (by kernel_rfl) (by kernel_rfl) (fun n w h => (h.ents (3, pfC b but maps) (fnd_mem (by kernel_rfl))).1.get (by omega)) (fun _ n => ⟨rfl, arrB_c _ _ _⟩) (fun _ _ => ⟨ints_ok _ _ _, arrB_ok _ _ _⟩) (by kernel_rfl) (fun hall5 => ?_) (fun _ _ => (by kernel_rfl)) (fun ei1 ex2 hx3 hn4 => ?_)))
  · refine WPO_all tt_ok (by kernel_rfl) ?_
    refine WP_seq (WP_cond (false) (by kernel_rfl) (fun h => by cases h) (fun hc6 => ?_))
    refine WP_exit ?_
    refine WP_seq (WP_region (WPO_all tt_ok (by kernel_rfl) ?_))
    refine WP_ret ?_
    exact ⟨.s (.bool true), by kernel_rfl, fun n w' h => ⟨by rw [each_yes hinv hall5]; rfl, h.bel⟩⟩
  refine WPO_all tt_ok (by kernel_rfl) ?_
  refine WP_seq (WP_cond (true) (by kernel_rfl) (fun hc7 => ?_) (fun h => by cases h))
  refine WP_skip ?_
  refine WP_block ?_
  refine WP_seq (WP_region (ENT (coursesF b k but) ekC (exC b k) pkC (pxC b k) 6 (maps.getD k 0) sn ei1 ex2 (some 17) (by kernel_rfl) (by kernel_rfl) (fun n w h => (h.ents (3, pfC b but maps) (fnd_mem (by kernel_rfl))).1.get (by omega)) hx3 (fun n => ⟨rfl, arrB_c _ _ _⟩) (⟨ints_ok _ _ _, arrB_ok _ _ _⟩) (by kernel_rfl) ?_))
  refine WPO_all tt_ok (by kernel_rfl) ?_
  refine WP_seq (WP_region (WPO_run tt_ok 2 (by kernel_rfl) ?_))
  refine CALL 108 [.g (arrB 201 (nearF b k ex2.1 ex2.2)), .g [.int .i64 (first : Int), .int .i64 (many : Int)]] (.s (.bool (hitF (nearF b k ex2.1 ex2.2) first many))) [] (by kernel_rfl) (goes_of (by kernel_rfl)) (by kernel_rfl) (by kernel_rfl) (fun _ n w h => hit_callsA n _ _ _ w h1) ?_
  refine WPO_all tt_ok (by kernel_rfl) ?_
  refine WP_cond (!(hitF (nearF b k ex2.1 ex2.2) first many)) (by kernel_rfl) (fun hc8 => ?_) (fun hc8 => ?_)
  · refine WP_seq (WP_region (WPO_all tt_ok (by kernel_rfl) ?_))
    refine WP_ret ?_
    exact ⟨.s (.bool false), by kernel_rfl, fun n w' h => ⟨by rw [each_no hx3 hc8]; rfl, h.bel⟩⟩
  refine WP_skip ?_
  refine ⟨sn ++ [ei1], ?_, ?_, Le_sel (ts := [14, 5]) (ids := [6, 5, 4, 0, 1, 2, 3]) (nx := 7) (by kernel_rfl)⟩
  · refine fun j hj y hy => (List.mem_append.1 hj).elim (fun h => hinv j h y hy) (fun h => ?_)
    rw [List.mem_singleton.1 h, hx3] at hy
    cases hy
    simpa using hc8
  · exact left_lt (List.getElem?_eq_some_iff.1 hx3).1 hn4
end Go.Proofs.YtamimgmoomcipaaDoor.Fw
