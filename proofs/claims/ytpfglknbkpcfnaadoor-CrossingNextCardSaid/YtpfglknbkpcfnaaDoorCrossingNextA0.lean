/- Parts of the proof of CrossingNext: the engine, contracts of functions, plain lemmas. -/
import Derived.ArgAppend
import Derived.Below
import Derived.ChangeKeysEq
import Derived.ControlIn
import Derived.Deep.Draws
import Derived.Deep.Quiet
import Derived.KernelRfl
import Derived.Laws.AppendOwn
import Derived.Laws.Cells
import Derived.Laws.CopyRow
import Derived.Laws.IdiomRangeMap
import Derived.Laws.Rows
import Derived.MapKept
import Derived.Maps.AppendAt
import Derived.OrdersHeld
import Derived.OrdersIn
import Derived.RangeFuncLeaves
import Derived.RangeFuncNested
import Derived.RangeFuncOwn
import Derived.WalkKit
import Derived.WideKeyRuns
set_option linter.all false
namespace Go.Proofs.YtpfglknbkpcfnaaDoor.Eng
open Go Go.RowKit
inductive AC where
 | int (k : IntKind) (n : Int)
 | bool (b : Bool)
 | p (id off : Nat)
 | pi (id : Nat) (i : Int) (sz off : Nat)
 | ep (id : Nat) (i : Int) (sz off : Nat)
 | ref (id : Nat)
 | sb (id off sz l h m : Nat)
 | v (v : Value)
def vblk : Value → Option Nat
 | .pointer (some a) => some a.block
 | .slice (some a) _ _ => some a.block
 | .map (some g) => some g
 | _ => none
def ptrAt : Value → Nat → Value
 | .pointer (some a), o => .pointer (some ⟨a.block, o, none⟩)
 | _, _ => .nilFunc
def elAt : Value → Nat → Value
 | .slice (some a) _ _, j => .pointer (some (a.add j))
 | _, _ => .nilFunc
def sbAt : Value → (off sz l h m : Nat) → Value
 | .pointer (some a), off, sz, l, h, m => .slice (some ⟨a.block, if m = l then off else off + l * sz, none⟩) (h - l) (m - l)
 | _, _, _, _, _, _ => .nilFunc
abbrev Vn := Nat → Value
def AC.c (n : Vn) : AC → Value
 | .int k x => .int k x
 | .bool b => .bool b
 | .p id o => ptrAt (n id) o
 | .pi id i sz o => ptrAt (n id) (i.toNat * sz + o)
 | .ep id i sz o => elAt (n id) (i.toNat * sz + o)
 | .ref id => n id
 | .sb id off sz l h m => sbAt (n id) off sz l h m
 | .v x => x
def ofV : Value → AC
 | .int k x => .int k x
 | .bool b => .bool b
 | x => .v x
theorem ofV_c (n : Vn) (x : Value) : (ofV x).c n = x := by cases x <;> rfl
inductive AV where
 | s (c : AC)
 | g (cs : List AC)
 | t (vs : List (Bool × List AC))
def cellsV (n : Vn) (cs : List AC) : Array Value := (cs.map (AC.c n)).toArray
def part1 (n : Vn) : Bool × List AC → Value
 | (true, cs) => .agg (cellsV n cs)
 | (false, [c]) => c.c n
 | (false, _) => undef
def AV.c (n : Vn) : AV → Value
 | .s c => c.c n
 | .g cs => .agg (cellsV n cs)
 | .t vs => .tuple (vs.map (part1 n)).toArray
def AV.cells : AV → List AC
 | .s c => [c]
 | .g cs => cs
 | .t _ => []
def avOf : Value → AV
 | .agg cs => .g (cs.toList.map ofV)
 | x => .s (ofV x)
theorem cellsV_ofV (n : Vn) (cs : Array Value) : cellsV n (cs.toList.map ofV) = cs := by
 simp [cellsV, Function.comp_def, ofV_c]
theorem avOf_c (n : Vn) (x : Value) : (avOf x).c n = x := by
 cases x <;> first | rfl | (simp [avOf, AV.c, cellsV_ofV])
inductive SK where
 | own | ro | full
def SK.isOwn : SK → Bool
 | .own => true
 | _ => false
inductive HE : Type 1 where
 | box (ty : TypeId) (cs : List AC)
 | lit (e : TypeId) (m : Nat) (cs : List AC)
 | sl (kd : SK) (e : TypeId) (sz : Nat) {α : Type} (l : List α) (enc : α → List Value) (z : α)
 | clo (f : FuncId) (first caps : List AV)
 | pf (F : World → Prop) (G : Nat → Prop)
 | jf (F : World → Prop) (G : Nat → Prop)
 | ob (isMap : Bool) (o : Obj)
def HE.mut : HE → Bool
 | .box .. => true
 | .lit .. => true
 | .sl kd .. => kd.isOwn
 | .clo .. => false
 | .pf .. => false
 | .jf .. => true
 | .ob .. => true
def HE.len : HE → Nat
 | .sl _ _ _ l _ _ => l.length
 | _ => 0
def HE.foot (x : Value) : HE → Nat → Prop
 | .box .., g => vblk x = some g
 | .lit .., g => vblk x = some g
 | .sl .own .., g => vblk x = some g
 | .sl _ _ _ l _ _, g => vblk x = some g ∧ 0 < l.length
 | .clo .., _ => False
 | .pf _ G, g => G g
 | .jf _ G, g => G g
 | .ob .., g => vblk x = some g
structure AS : Type 1 where
 nt : Nat
 env : List (Nat × List (Nat × Bool) × AV)
 hp : List (Nat × HE)
 nx : Nat
 df : List Nat
def fnd : List (Nat × HE) → Nat → Option HE
 | [], _ => none
 | x :: r, id => bif Nat.beq x.1 id then some x.2 else fnd r id
def look : List (Nat × List (Nat × Bool) × AV) → Nat → Option (List (Nat × Bool) × AV)
 | [], _ => none
 | x :: r, t => bif Nat.beq x.1 t then some x.2 else look r t
def Reads (w : World) (v : Value) (sz : Nat) {α : Type} (l : List α) (enc : α → List Value) (z : α) : Prop :=
 ∃ A c, v = .slice A l.length c ∧ l.length ≤ c ∧ c ≤ maxLen ∧ (0 < l.length → ∃ ad, A = some ad ∧ ∀ j, j < l.length → ∀ o, o < sz → w.cell? (ad.add (j * sz + o)) = some ((enc (l.getD j z)).getD o undef))
def flat {α : Type} (l : List α) (enc : α → List Value) : List Value := l.flatMap enc
def HE.sat (n : Vn) (ok : Nat → Prop) (w : World) (x : Value) : HE → Prop
 | .box ty cs => ∃ g, x = .pointer (some ⟨g, 0, none⟩) ∧ ok g ∧ w.heap[g]? = some (.cells (cellsV n cs) ty (0, 0))
 | .lit e m cs => ∃ g, x = .slice (some ⟨g, 0, none⟩) m m ∧ ok g ∧ m ≤ maxLen ∧ w.heap[g]? = some (.cells (cellsV n cs) e (0, 0))
 | .sl .own e sz l enc z => (∀ y, (enc y).length = sz) ∧ (∀ g, vblk x = some g → ok g) ∧ w.ownsRow 0 e sz x l.length (flat l enc)
 | .sl .ro e sz l enc z => (∀ y, (enc y).length = sz) ∧ Reads w x sz l enc z
 | .sl .full e sz l enc z => (∀ y, (enc y).length = sz) ∧ Reads w x sz l enc z ∧ ∃ A, x = .slice A l.length l.length
 | .clo f first caps => x = .func (.func f) (first.map (AV.c n)).toArray (caps.map (AV.c n)).toArray
 | .pf F G => F w ∧ ∀ w1 w2 : World, F w1 → (∀ g, G g → w2.heap[g]? = w1.heap[g]?) → F w2
 | .jf F G => F w ∧ (∀ g, G g → ok g) ∧ ∀ w1 w2 : World, F w1 → (∀ g, G g → w2.heap[g]? = w1.heap[g]?) → F w2
 | .ob isMap o => ∃ g, x = (if isMap then .map (some g) else .pointer (some ⟨g, 0, none⟩)) ∧ ok g ∧ w.heap[g]? = some o
structure Fr (w0 : World) (ok : Nat → Prop) (w : World) : Prop where
 os : w.os = w0.os
 tape : w.tape = w0.tape
 output : w.output = w0.output
 size : w0.heap.size ≤ w.heap.size
 block : ∀ k, k < w0.heap.size → ¬ ok k → w.heap[k]? = w0.heap[k]?
 news : ∀ k, w0.heap.size ≤ k → ok k
def AC.ok (s : AS) : AC → Prop
 | .p id _ => id < s.nx
 | .ref id => id < s.nx
 | .sb id _ _ _ _ _ => id < s.nx
 | .pi id _ _ _ => id < s.nx
 | .ep id i _ _ => id < s.nx ∧ ∀ h, fnd s.hp id = some h → 0 ≤ i ∧ i < (h.len : Int)
 | .v x => True
 | _ => True
def cellsOk (s : AS) (cs : List AC) : Prop := ∀ c ∈ cs, c.ok s
def AV.ok (s : AS) : AV → Prop
 | .s c => c.ok s
 | .g cs => cellsOk s cs
 | .t vs => ∀ x ∈ vs, cellsOk s x.2
def HE.ok (s : AS) : HE → Prop
 | .box _ cs => cellsOk s cs
 | .lit _ _ cs => cellsOk s cs
 | .sl .. => True
 | .clo _ first caps => (∀ x ∈ first, x.ok s) ∧ (∀ x ∈ caps, x.ok s)
 | .pf .. => True
 | .jf .. => True
 | .ob .. => True
def Holds (a : Act) (T : List (Nat × Bool)) : Prop := ∀ x ∈ T, a.tmps.getD x.1 undef = .bool x.2
structure EntOk (n : Vn) (s : AS) (a : Act) (x : Nat × List (Nat × Bool) × AV) : Prop where
 lt : x.1 < s.nt
 yes : Holds a x.2.1 → a.tmps.getD x.1 undef = x.2.2.c n ∧ x.2.2.ok s
 no : ¬ Holds a x.2.1 → a.tmps.getD x.1 undef = undef
structure Cx where
 w0 : World
 ok : Nat → Prop
 n0 : Vn
 m0 : Nat
 top : Bool
structure HSat (cx : Cx) (n : Vn) (s : AS) (w : World) : Prop where
 fr : Fr cx.w0 cx.ok w
 ini : ∀ id, id < cx.m0 → n id = cx.n0 id
 inx : cx.m0 ≤ s.nx
 one : ∀ id, (n id).oneCell' = true
 ents : ∀ x ∈ s.hp, x.2.sat n cx.ok w (n x.1)
 oks : ∀ x ∈ s.hp, x.2.ok s
 sep : s.hp.Pairwise fun x y => (x.2.mut = true ∨ y.2.mut = true) → ∀ g, x.2.foot (n x.1) g → ¬ y.2.foot (n y.1) g
 lt : ∀ x ∈ s.hp, ∀ g, x.2.foot (n x.1) g → g < w.heap.size
 ids : ∀ x ∈ s.hp, x.1 < s.nx
def marks (df : List Nat) : List Deferred := df.map fun D => { target := .collected D, args := #[] }
structure Sat (cx : Cx) (n : Vn) (s : AS) (a : Act) (w : World) : Prop where
 heap : HSat cx n s w
 size : a.tmps.size = s.nt
 env : ∀ x ∈ s.env, EntOk n s a x
 defers : a.defers = marks s.df
theorem add_block (a : Addr) (j : Nat) : (a.add j).block = a.block := by unfold Addr.add; split <;> rfl
theorem HE.sat_move {n : Vn} {ok : Nat → Prop} {w w' : World} {x : Value} {e : HE} (h : e.sat n ok w x) (hm : ∀ g, e.foot x g → w'.heap[g]? = w.heap[g]?) : e.sat n ok w' x := by
 cases e with
 | box ty cs =>
  obtain ⟨g, rfl, hg, hh⟩ := h
  exact ⟨g, rfl, hg, (hm g rfl).trans hh⟩
 | lit e m cs =>
  obtain ⟨g, rfl, hg, h1, hh⟩ := h
  exact ⟨g, rfl, hg, h1, (hm g rfl).trans hh⟩
 | sl kd e sz l enc z =>
  have hrd : Reads w x sz l enc z → (∀ g, (vblk x = some g ∧ 0 < l.length) → w'.heap[g]? = w.heap[g]?) → Reads w' x sz l enc z := by
   rintro ⟨A, c, rfl, h2, h3, h4⟩ hm
   refine ⟨A, c, rfl, h2, h3, fun hp => ?_⟩
   obtain ⟨ad, rfl, hc⟩ := h4 hp
   refine ⟨ad, rfl, fun j hj o ho => ?_⟩
   rw [World.cell?_of_block (w := w)]
   ·exact hc j hj o ho
   rw [add_block]; exact hm _ ⟨rfl, hp⟩
  cases kd with
  | own =>
   obtain ⟨h1, h2, h3⟩ := h
   refine ⟨h1, h2, ?_⟩
   rcases h3 with ⟨h3, h4⟩
   refine ⟨h3, ?_⟩
   rcases h4 with h4 | ⟨g, cap, cur, rfl, hb, hh, r⟩
   ·exact .inl h4
   exact .inr ⟨g, cap, cur, rfl, hb, (hm g rfl).trans hh, r⟩
  | ro => exact ⟨h.1, hrd h.2 hm⟩
  | full => exact ⟨h.1, hrd h.2.1 hm, h.2.2⟩
 | clo f first caps => exact h
 | pf F G => exact ⟨h.2 w w' h.1 hm, h.2⟩
 | jf F G => exact ⟨h.2.2 w w' h.1 hm, h.2⟩
 | ob isMap o =>
  obtain ⟨g, rfl, hg, hh⟩ := h
  refine ⟨g, rfl, hg, (hm g ?_).trans hh⟩
  cases isMap <;> rfl
theorem AC.c_congr {n n' : Vn} {s : AS} {c : AC} (h : c.ok s) (hn : ∀ id, id < s.nx → n' id = n id) : c.c n' = c.c n := by
 cases c <;> simp only [AC.c] <;> first | rfl | (simp only [AC.ok] at h; rw [hn _ h]) | (simp only [AC.ok] at h; rw [hn _ h.1])
theorem cellsV_congr {n n' : Vn} {s : AS} {cs : List AC} (h : cellsOk s cs) (hn : ∀ id, id < s.nx → n' id = n id) : cellsV n' cs = cellsV n cs := by
 unfold cellsV
 congr 1
 exact List.map_congr_left fun c hc => AC.c_congr (h c hc) hn
theorem part1_congr {n n' : Vn} {s : AS} {x : Bool × List AC} (h : cellsOk s x.2) (hn : ∀ id, id < s.nx → n' id = n id) : part1 n' x = part1 n x := by
 obtain ⟨b, cs⟩ := x
 cases b
 ·match cs, h with
  | [], _ => rfl
  | [c], h => exact AC.c_congr (h c (by simp)) hn
  | _ :: _ :: _, _ => rfl
 simp only [part1, cellsV_congr h hn]
theorem AV.c_congr {n n' : Vn} {s : AS} {v : AV} (h : v.ok s) (hn : ∀ id, id < s.nx → n' id = n id) : v.c n' = v.c n := by
 cases v with
 | s c => exact AC.c_congr h hn
 | g cs => simp only [AV.c, cellsV_congr h hn]
 | t vs =>
  simp only [AV.c]
  congr 2
  exact List.map_congr_left fun x hx => part1_congr (h x hx) hn
theorem HE.sat_congr {n n' : Vn} {ok : Nat → Prop} {w : World} {x : Value} {e : HE} {s : AS} (h : e.ok s) (hn : ∀ id, id < s.nx → n' id = n id) (hs : e.sat n ok w x) : e.sat n' ok w x := by
 cases e with
 | box ty cs => simp only [HE.sat, cellsV_congr h hn] at *; exact hs
 | lit e m cs => simp only [HE.sat, cellsV_congr h hn] at *; exact hs
 | sl kd e sz l enc z => cases kd <;> exact hs
 | clo f first caps =>
  simp only [HE.sat] at *
  rw [List.map_congr_left fun x hx => AV.c_congr (h.1 x hx) hn, List.map_congr_left fun x hx => AV.c_congr (h.2 x hx) hn]
  exact hs
 | pf F G => exact hs
 | jf F G => exact hs
 | ob isMap o => exact hs
structure More (s s' : AS) : Prop where
 nx : s.nx ≤ s'.nx
 fnd : ∀ id, id < s.nx → ∀ h, fnd s'.hp id = some h → ∃ h0, Eng.fnd s.hp id = some h0 ∧ h0.len ≤ h.len
theorem More.refl (s : AS) : More s s := ⟨Nat.le_refl _, fun id _ h hh => ⟨h, hh, Nat.le_refl _⟩⟩
theorem AC.ok_more {s s' : AS} {c : AC} (h : c.ok s) (m : More s s') : c.ok s' := by
 cases c <;> simp only [AC.ok] at * <;> first | trivial | (exact Nat.lt_of_lt_of_le h m.nx) | skip
 refine ⟨Nat.lt_of_lt_of_le h.1 m.nx, fun e he => ?_⟩
 obtain ⟨e0, h0, hl⟩ := m.fnd _ h.1 e he
 have := h.2 e0 h0
 omega
theorem cellsOk_more {s s' : AS} {cs : List AC} (h : cellsOk s cs) (m : More s s') : cellsOk s' cs := fun c hc => AC.ok_more (h c hc) m
theorem AV.ok_more {s s' : AS} {v : AV} (h : v.ok s) (m : More s s') : v.ok s' := by
 cases v with
 | s c => exact AC.ok_more h m
 | g cs => exact cellsOk_more h m
 | t vs => exact fun x hx => cellsOk_more (h x hx) m
theorem HE.ok_more {s s' : AS} {e : HE} (h : e.ok s) (m : More s s') : e.ok s' := by
 cases e with
 | box ty cs => exact cellsOk_more h m
 | lit e k cs => exact cellsOk_more h m
 | sl kd e sz l enc z => trivial
 | clo f first caps => exact ⟨fun x hx => AV.ok_more (h.1 x hx) m, fun x hx => AV.ok_more (h.2 x hx) m⟩
 | pf F G => trivial
 | jf F G => trivial
 | ob isMap o => trivial
theorem Fr.refl (w : World) (ok : Nat → Prop) (h : ∀ k, w.heap.size ≤ k → ok k) : Fr w ok w := ⟨rfl, rfl, rfl, Nat.le_refl _, fun _ _ _ => rfl, h⟩
theorem Fr.below {w0 w w' : World} {ok : Nat → Prop} (h : Fr w0 ok w) (hb : Below w.heap.size w w') : Fr w0 ok w' :=
 ⟨hb.os.trans h.os, hb.tape.trans h.tape, hb.output.trans h.output, Nat.le_trans h.size hb.size, fun k hk hn => (hb.block k (Nat.lt_of_lt_of_le hk h.size)).trans (h.block k hk hn), h.news⟩
theorem Fr.toBelow {w0 w : World} {ok : Nat → Prop} (h : Fr w0 ok w) (hok : ∀ k, k < w0.heap.size → ¬ ok k) : Below w0.heap.size w0 w :=
 ⟨h.os, h.tape, h.output, h.size, fun k hk => h.block k hk (hok k hk)⟩
theorem Fr.alloc {w0 w : World} {ok : Nat → Prop} (h : Fr w0 ok w) (o : Obj) : Fr w0 ok (w.alloc o) := h.below ((Below.refl _ _).alloc (Nat.le_refl _) o)
theorem Fr.grown {w0 w w' : World} {ok : Nat → Prop} {row : Option Nat} (h : Fr w0 ok w) (hg : w.grownBy w' row) (hr : ∀ g, row = some g → ok g) : Fr w0 ok w' :=
 ⟨hg.os.trans h.os, hg.tape.trans h.tape, hg.output.trans h.output, Nat.le_trans h.size hg.size, fun k hk hn => (hg.block k (Nat.lt_of_lt_of_le hk h.size) (fun e => hn (hr k e.symm))).trans (h.block k hk hn), h.news⟩
theorem HSat.move {cx : Cx} {n : Vn} {s : AS} {w w' : World} (h : HSat cx n s w) (hf : Fr cx.w0 cx.ok w') (hz : w.heap.size ≤ w'.heap.size) (hm : ∀ x ∈ s.hp, ∀ g, x.2.foot (n x.1) g → w'.heap[g]? = w.heap[g]?) : HSat cx n s w' where
 fr := hf
 ini := h.ini
 inx := h.inx
 one := h.one
 ents x hx := HE.sat_move (h.ents x hx) (hm x hx)
 oks := h.oks
 sep := h.sep
 lt x hx g hg := Nat.lt_of_lt_of_le (h.lt x hx g hg) hz
 ids := h.ids
theorem HSat.below {cx : Cx} {n : Vn} {s : AS} {w w' : World} (h : HSat cx n s w) (hb : Below w.heap.size w w') : HSat cx n s w' :=
 h.move (h.fr.below hb) hb.size fun x hx g hg => hb.block g (h.lt x hx g hg)
theorem HSat.same {cx : Cx} {n : Vn} {s : AS} {w w' : World} (h : HSat cx n s w) (h1 : w'.heap = w.heap) (h2 : w'.os = w.os) (h3 : w'.tape = w.tape) (h4 : w'.output = w.output) : HSat cx n s w' :=
 h.below ⟨h2, h3, h4, by rw [h1]; exact Nat.le_refl _, fun k _ => by rw [h1]⟩
def upd (n : Vn) (id : Nat) (v : Value) : Vn := fun i => if i = id then v else n i
theorem upd_lt (n : Vn) (id : Nat) (v : Value) : ∀ i, i < id → upd n id v i = n i := fun i h => if_neg (by omega)
theorem upd_same (n : Vn) (id : Nat) (v : Value) : upd n id v id = v := if_pos rfl
def AS.add (s : AS) (e : HE) : AS := { s with hp := (s.nx, e) :: s.hp, nx := s.nx + 1 }
theorem fnd_ne {l : List (Nat × HE)} {id : Nat} (h : ∀ x ∈ l, x.1 ≠ id) : fnd l id = none := by
 induction l with
 | nil => rfl
 | cons x r ih =>
  have hx : Nat.beq x.1 id = false := by
   have := h x (by simp)
   rcases hb : Nat.beq x.1 id with _ | _
   ·rfl
   exact absurd (Nat.eq_of_beq_eq_true hb) this
  simp only [fnd, hx, cond_false]
  exact ih fun y hy => h y (by simp [hy])
theorem fnd_cons_ne {l : List (Nat × HE)} {x : Nat × HE} {id : Nat} (h : x.1 ≠ id) : fnd (x :: l) id = fnd l id := by
 have hx : Nat.beq x.1 id = false := by
  rcases hb : Nat.beq x.1 id with _ | _
  ·rfl
  exact absurd (Nat.eq_of_beq_eq_true hb) h
 simp only [fnd, hx, cond_false]
theorem fnd_mem {l : List (Nat × HE)} {id : Nat} {e : HE} (h : fnd l id = some e) : (id, e) ∈ l := by
 induction l with
 | nil => cases h
 | cons x r ih =>
  simp only [fnd] at h
  rcases hb : Nat.beq x.1 id with _ | _
  ·rw [hb] at h; exact List.mem_cons_of_mem _ (ih h)
  rw [hb] at h
  have := Nat.eq_of_beq_eq_true hb
  simp only [cond_true] at h
  obtain ⟨i, e'⟩ := x
  cases h; cases this
  exact List.mem_cons_self
theorem look_mem {l : List (Nat × List (Nat × Bool) × AV)} {t : Nat} {e : List (Nat × Bool) × AV} (h : look l t = some e) : (t, e) ∈ l := by
 induction l with
 | nil => cases h
 | cons x r ih =>
  simp only [look] at h
  rcases hb : Nat.beq x.1 t with _ | _
  ·rw [hb] at h; exact List.mem_cons_of_mem _ (ih h)
  rw [hb] at h
  have := Nat.eq_of_beq_eq_true hb
  simp only [cond_true] at h
  obtain ⟨i, e'⟩ := x
  cases h; cases this
  exact List.mem_cons_self
theorem More.add (s : AS) (e : HE) : More s (s.add e) :=
 ⟨by simp [AS.add], fun id hid h hh => ⟨h, by
  rw [AS.add] at hh
  have : Eng.fnd ((s.nx, e) :: s.hp) id = some h := hh
  rwa [fnd_cons_ne (by simp; omega)] at this, Nat.le_refl _⟩⟩
theorem HSat.add {cx : Cx} {n : Vn} {s : AS} {w w' : World} {e : HE} {v : Value} (h : HSat cx n s w) (hb : Below w.heap.size w w') (h1 : v.oneCell' = true)
  (hs : e.sat (upd n s.nx v) cx.ok w' v) (hk : e.ok s) (hl : ∀ g, e.foot v g → g < w'.heap.size) (hnew : ∀ g, e.foot v g → w.heap.size ≤ g ∨ (∀ x ∈ s.hp, (e.mut = true ∨ x.2.mut = true) → ¬ x.2.foot (n x.1) g)) :
  HSat cx (upd n s.nx v) (s.add e) w' := by
 have hb' := h.below hb
 have hag : ∀ x ∈ s.hp, upd n s.nx v x.1 = n x.1 := fun x hx => upd_lt n s.nx v _ (h.ids x hx)
 refine ⟨hb'.fr, fun id hid => (upd_lt n s.nx v id (Nat.lt_of_lt_of_le hid h.inx)).trans (h.ini id hid), Nat.le_succ_of_le h.inx, fun id => ?_, fun x hx => ?_, fun x hx => ?_, ?_, fun x hx g hg => ?_, fun x hx => ?_⟩
 ·unfold upd; split
  ·exact h1
  exact h.one id
 ·rcases List.mem_cons.1 hx with rfl | hx
  ·rw [upd_same]; exact hs
  rw [hag x hx]; exact HE.sat_congr (h.oks x hx) (upd_lt n s.nx v) (hb'.ents x hx)
 ·rcases List.mem_cons.1 hx with rfl | hx
  ·exact HE.ok_more hk (More.add s e)
  exact HE.ok_more (h.oks x hx) (More.add s e)
 ·refine List.pairwise_cons.2 ⟨fun y hy hm g hg hgy => ?_, ?_⟩
  ·rw [upd_same] at hg
   rw [hag y hy] at hgy
   rcases hnew g hg with hlt | hno
   ·have := h.lt y hy g hgy; omega
   exact hno y hy hm hgy
  exact h.sep.imp_of_mem fun {a b} ha hb2 hab hm g hg => by
   rw [hag a ha] at hg; rw [hag b hb2]; exact hab hm g hg
 ·rcases List.mem_cons.1 hx with rfl | hx
  ·rw [upd_same] at hg; exact hl g hg
  rw [hag x hx] at hg; exact hb'.lt x hx g hg
 rcases List.mem_cons.1 hx with rfl | hx
 ·exact Nat.lt_succ_self _
 exact Nat.lt_succ_of_lt (h.ids x hx)
inductive TD where
 | int (k : IntKind) | bool | str
 | struct (fs : List (Nat × TypeId))
 | array (n : Nat) (e : TypeId) | slice (e : TypeId) | map (k v : TypeId) | pointer (e : TypeId) | func | other
def tdOf : TypeDesc → TD
 | .int k => .int k
 | .bool => .bool
 | .string => .str
 | .struct fs => .struct (fs.toList.map fun f => (f.offset, f.type))
 | .array n e => .array n e
 | .slice e => .slice e
 | .map k v => .map k v
 | .pointer e => .pointer e
 | .func .. => .func
 | _ => .other
def TD.ag : TD → Bool
 | .struct _ | .array .. => true
 | _ => false
structure TyI where
 size : Nat
 bytes : Nat
 zero : Value
 d : TD
def tyOk (P : Program) (t : TypeId) (i : TyI) : Prop :=
 (P.info? t).map (fun x => (x.size, x.bytes, x.zero)) = some (i.size, i.bytes, some i.zero) ∧ (P.underlying t).map tdOf = some i.d
abbrev TT := List (TypeId × TyI)
def TTok (P : Program) (tt : TT) : Prop := ∀ x ∈ tt, tyOk P x.1 x.2
def tyL : TT → TypeId → Option TyI
 | [], _ => none
 | x :: r, t => bif Nat.beq x.1 t then some x.2 else tyL r t
theorem tyL_mem {l : TT} {t : TypeId} {e : TyI} (h : tyL l t = some e) : (t, e) ∈ l := by
 induction l with
 | nil => cases h
 | cons x r ih =>
  simp only [tyL] at h
  rcases hb : Nat.beq x.1 t with _ | _
  ·rw [hb] at h; exact List.mem_cons_of_mem _ (ih h)
  rw [hb] at h
  have := Nat.eq_of_beq_eq_true hb
  simp only [cond_true] at h
  obtain ⟨i, e'⟩ := x
  cases h; cases this
  exact List.mem_cons_self
structure TyF (P : Program) (t : TypeId) (i : TyI) where
 info : TypeInfo
 hinfo : P.info? t = some info
 size : info.size = i.size
 bytes : info.bytes = i.bytes
 zero : info.zero = some i.zero
 desc : TypeDesc
 hdesc : P.underlying t = some desc
 td : tdOf desc = i.d
theorem TTok.get {P : Program} {tt : TT} (h : TTok P tt) {t : TypeId} {i : TyI} (hi : tyL tt t = some i) : Nonempty (TyF P t i) := by
 obtain ⟨h1, h2⟩ := h _ (tyL_mem hi)
 obtain ⟨info, hinfo, he⟩ := Option.map_eq_some_iff.1 h1
 obtain ⟨d, hd, hde⟩ := Option.map_eq_some_iff.1 h2
 simp only [Prod.mk.injEq] at he
 exact ⟨⟨info, hinfo, he.1, he.2.1, he.2.2, d, hd, hde⟩⟩
theorem run_sizeOf' {P : Program} {t : TypeId} {i : TyI} (F : TyF P t i) (w : World) : (sizeOf t).run P w = .ok i.size w := by
 simp [sizeOf, typeInfo, F.hinfo, F.size]
theorem run_isAgg' {P : Program} {t : TypeId} {i : TyI} (F : TyF P t i) (w : World) : (isAgg t).run P w = .ok i.d.ag w := by
 unfold isAgg
 rw [Sem.run_bind, run_underlying F.hdesc w, ← F.td]
 cases F.desc <;> rfl
theorem run_zero' {P : Program} {t : TypeId} {i : TyI} (F : TyF P t i) (w : World) : (zeroValue t).run P w = .ok i.zero w := by
 simp [zeroValue, typeInfo, F.hinfo, F.zero]
def ev (s : AS) (T : List (Nat × Bool)) : Operand → Option AV
 | .tmp t => match look s.env t with
  | some (tg, v) => bif tg.all (fun x => T.any fun y => Nat.beq x.1 y.1 && (x.2 == y.2)) then some v else none
  | none => none
 | .const v => some (avOf v)
 | .global g => some (.s (.v (.pointer (some ⟨g, 0, none⟩))))
 | .func f => some (.s (.v (.func (.func f) #[] #[])))
theorem avOf_ok (s : AS) (v : Value) : (avOf v).ok s := by
 have hc : ∀ x : Value, (ofV x).ok s := fun x => by cases x <;> trivial
 cases v with
 | agg cs => intro c hc'; obtain ⟨x, _, rfl⟩ := List.mem_map.1 hc'; exact hc x
 | _ => trivial
theorem ev_sound {n : Vn} {s : AS} {a : Act} (hs : ∀ x ∈ s.env, EntOk n s a x) {T : List (Nat × Bool)} (hT : Holds a T) {x : Operand} {v : AV} (h : ev s T x = some v) :
  a.eval x = v.c n ∧ v.ok s := by
 cases x with
 | tmp t =>
  simp only [ev] at h
  split at h
  ·rename_i tg v' hl
   rcases hb : (tg.all fun x => T.any fun y => Nat.beq x.1 y.1 && (x.2 == y.2)) with _ | _
   ·rw [hb] at h; cases h
   rw [hb] at h
   cases h
   refine (hs _ (look_mem hl)).yes fun x hx => ?_
   obtain ⟨y, hy, hxy⟩ := List.any_eq_true.1 (List.all_eq_true.1 hb x hx)
   simp only [Bool.and_eq_true, beq_iff_eq] at hxy
   rw [Nat.eq_of_beq_eq_true hxy.1, hxy.2]
   exact hT y hy
  cases h
 | const c => cases h; exact ⟨(avOf_c n c).symm, avOf_ok s c⟩
 | global g => cases h; exact ⟨rfl, trivial⟩
 | func f => cases h; exact ⟨rfl, trivial⟩
def arith (op : BinOp) (k : IntKind) (x y : Int) : Option AC :=
 match op with
 | .add => some (.int k (k.wrap (x + y)))
 | .sub => some (.int k (k.wrap (x - y)))
 | .mul => some (.int k (k.wrap (x * y)))
 | .and => some (.int k (k.wrap (BitVec.ofInt k.bits x &&& BitVec.ofInt k.bits y).toNat))
 | .or => some (.int k (k.wrap (BitVec.ofInt k.bits x ||| BitVec.ofInt k.bits y).toNat))
 | .xor => some (.int k (k.wrap (BitVec.ofInt k.bits x ^^^ BitVec.ofInt k.bits y).toNat))
 | .andNot => some (.int k (k.wrap (BitVec.ofInt k.bits x &&& ~~~(BitVec.ofInt k.bits y)).toNat))
 | .eql => some (.bool (x == y))
 | .neq => some (.bool (x != y))
 | .lss => some (.bool (decide (x < y)))
 | .leq => some (.bool (decide (x ≤ y)))
 | .gtr => some (.bool (decide (x > y)))
 | .geq => some (.bool (decide (x ≥ y)))
 | _ => none
def bin (op : BinOp) : AV → AV → Option AV
 | .s (.int k x), .s (.int k' y) => if k = k' then (arith op k x y).map .s else none
 | _, _ => none
def un (op : UnOp) : AV → Option AV
 | .s (.bool b) => match op with | .not => some (.s (.bool (!b))) | _ => none
 | .s (.int k x) => match op with | .neg => some (.s (.int k (k.wrap (0 - x)))) | _ => none
 | _ => none
def isB (b : Bool) : Operand → Bool
 | .const (.bool c) => b == c
 | _ => false
def pickT : Operand → List (Nat × Bool) → Bool → List (Nat × Bool)
 | .tmp t, T, b => (t, b) :: T
 | _, T, _ => T
def getAt : List AC → Nat → Option AC
 | [], _ => none
 | x :: _, 0 => some x
 | _ :: r, n + 1 => getAt r n
def sub (cs : List AC) (off size : Nat) (ag : Bool) : Option AV :=
 bif ag then (bif Nat.ble (off + size) cs.length then some (.g ((cs.drop off).take size)) else none)
 else (getAt cs off).map .s
def ldv (tt : TT) (s : AS) (t : TypeId) : AV → Option AV
 | .s (.p id off) => match tyL tt t, fnd s.hp id with
  | some i, some (.box _ cs) => sub cs off i.size i.d.ag
  | _, _ => none
 | .s (.ep id ix sz off) => match tyL tt t, fnd s.hp id with
  | some i, some (.sl _ _ sz' l enc z) => bif Nat.beq sz sz' && Nat.ble (off + i.size) sz && Nat.ble 1 i.size then sub ((enc (l.getD ix.toNat z)).map ofV) off i.size i.d.ag else none
  | _, _ => none
 | _ => none
def nthF : List (Nat × TypeId) → Nat → Option (Nat × TypeId)
 | [], _ => none
 | x :: _, 0 => some x
 | _ :: r, n + 1 => nthF r n
def isBox : Option HE → Bool
 | some (.box ..) => true
 | _ => false
def isSl : Option HE → Bool
 | some (.sl ..) => true
 | _ => false
def fldO (tt : TT) (st : TypeId) (f : Nat) : Option Nat :=
 match tyL tt st with
 | some ⟨_, _, _, .struct fs⟩ => match nthF fs f with
  | some (o, ft) => match tyL tt ft with
   | some i => bif Nat.beq i.size 0 then none else some o
   | none => none
  | none => none
 | _ => none
def fld (tt : TT) (s : AS) (st : TypeId) (f : Nat) : AV → Option AV
 | .s (.p id off) => bif isBox (fnd s.hp id) then (fldO tt st f).map fun o => .s (.p id (off + o)) else none
 | .s (.ep id ix sz off) => bif isSl (fnd s.hp id) then (fldO tt st f).map fun o => .s (.ep id ix sz (off + o)) else none
 | .s (.v (.pointer (some ⟨g, off, none⟩))) => (fldO tt st f).map fun o => .s (.v (.pointer (some ⟨g, off + o, none⟩)))
 | _ => none
def fldV (tt : TT) (st : TypeId) (f : Nat) : AV → Option AV
 | .g cs => match tyL tt st with
  | some ⟨_, _, _, .struct fs⟩ => match nthF fs f with
   | some (o, ft) => match tyL tt ft with
    | some i => sub cs o i.size i.d.ag
    | none => none
   | none => none
  | _ => none
 | _ => none
def ext : List (Bool × List AC) → Nat → Option AV
 | [], _ => none
 | (true, cs) :: _, 0 => some (.g cs)
 | (false, [c]) :: _, 0 => some (.s c)
 | _ :: _, 0 => none
 | _ :: r, n + 1 => ext r n
def spl : List AC → Nat → List AC → List AC
 | cs, 0, vs => vs ++ cs.drop vs.length
 | [], _, _ => []
 | c :: cs, n + 1, vs => c :: spl cs n vs
def fillA (place : Nat → Option (Nat × Nat)) : List AC → List (Nat × AV) → Option (List AC)
 | cs, [] => some cs
 | cs, (i, v) :: r => match place i with
  | none => none
  | some (o, z) => bif Nat.beq v.cells.length z && Nat.ble (o + z) cs.length then fillA place (spl cs o v.cells) r else none
def AC.one : AC → Bool
 | .v x => x.oneCell'
 | _ => true
def AV.good : AV → Bool
 | .s c => c.one
 | .g _ => true
 | .t _ => false
def evs (s : AS) (T : List (Nat × Bool)) : List (Nat × Operand) → Option (List (Nat × AV))
 | [] => some []
 | (i, x) :: r => match ev s T x, evs s T r with
  | some v, some l => bif v.good then some ((i, v) :: l) else none
  | _, _ => none
def plc (tt : TT) (fs : List (Nat × TypeId)) (i : Nat) : Option (Nat × Nat) :=
 match nthF fs i with
 | some (o, t) => (tyL tt t).map fun j => (o, j.size)
 | none => none
def allTy (tt : TT) : List (Nat × TypeId) → Bool
 | [] => true
 | x :: r => (tyL tt x.2).isSome && allTy tt r
def bld (tt : TT) (t : TypeId) (vs : List (Nat × AV)) : Option AV :=
 match tyL tt t with
 | some ⟨_, _, z, .struct fs⟩ => bif allTy tt fs then (fillA (plc tt fs) (avOf z).cells vs).map .g else none
 | some ⟨_, _, z, .array _ e⟩ => match tyL tt e with
  | some j => (fillA (fun i => some (i * j.size, j.size)) (avOf z).cells vs).map .g
  | none => none
 | _ => none
def nilS : Value → Bool
 | .slice none 0 0 => true
 | _ => false
def isSlT : Option TyI → Bool
 | some ⟨_, _, _, .slice _⟩ => true
 | _ => false
def slLen : Option HE → Option Nat
 | some (.sl _ _ _ l _ _) => some l.length
 | _ => none
def lenOf (tt : TT) (s : AS) (t : TypeId) : AV → Option AV
 | .s (.ref id) => bif isSlT (tyL tt t) then (slLen (fnd s.hp id)).map fun (n : Nat) => .s (.int .i64 (n : Int)) else none
 | .s (.v x) => bif isSlT (tyL tt t) && nilS x then some (.s (.int .i64 0)) else none
 | _ => none
def mx (x y : Int) : Int := if y > x then y else x
def mn (x y : Int) : Int := if y < x then y else x
def evl (s : AS) (T : List (Nat × Bool)) : List Operand → Option (List AV)
 | [] => some []
 | x :: r => match ev s T x, evl s T r with
  | some v, some l => some (v :: l)
  | _, _ => none
def blt (tt : TT) (s : AS) : Builtin → List AV → List TypeId → Option AV
 | .len, [u], [t] => lenOf tt s t u
 | .max, [.s (.int k u), .s (.int _ v)], _ => some (.s (.int k (mx u v)))
 | .min, [.s (.int k u), .s (.int _ v)], _ => some (.s (.int k (mn u v)))
 | _, _, _ => none
def idxV (tt : TT) (t : TypeId) (cs : List AC) (k : Int) : Option AV :=
 match tyL tt t with
 | some ⟨_, _, _, .array m e⟩ => match tyL tt e with
  | some i => match k with
   | .ofNat j => bif Nat.ble (j + 1) m then sub cs (j * i.size) i.size i.d.ag else none
   | _ => none
  | none => none
 | _ => none
def opv (tt : TT) (s : AS) (T : List (Nat × Bool)) : Op → Option AV
 | .move x | .assign x => ev s T x
 | .pick c x y => match ev s T c with
  | some (.s (.bool g)) => match ev s (pickT c T true) x, ev s (pickT c T false) y with
   | some (.s (.bool u)), some (.s (.bool v)) => bif isB true x then some (.s (.bool (g || v))) else bif isB false y then some (.s (.bool (g && u))) else some (.s (.bool (bif g then u else v)))
   | _, _ => none
  | _ => none
 | .binOp op _ x y _ => match ev s T x, ev s T y with
  | some u, some v => bin op u v
  | _, _ => none
 | .unOp op _ x => match ev s T x with
  | some u => un op u
  | none => none
 | .load t x => match ev s T x with
  | some u => ldv tt s t u
  | none => none
 | .fieldAddr st x f => match ev s T x with
  | some u => fld tt s st f u
  | none => none
 | .field st x f => match ev s T x with
  | some u => fldV tt st f u
  | none => none
 | .index t x ix => match ev s T x, ev s T ix with
  | some (.g cs), some (.s (.int _ k)) => idxV tt t cs k
  | _, _ => none
 | .extract x i => match ev s T x with
  | some (.t vs) => ext vs i
  | _ => none
 | .build t ps => match evs s T ps.toList with
  | some vs => bld tt t vs
  | none => none
 | .call c => match c.callee with
  | .builtin b => match evl s T c.args.toList with
   | some vs => blt tt s b vs c.argTypes.toList
   | none => none
  | _ => none
 | _ => none
section
variable {P : Program} {tt : TT} {cx : Cx} {n : Vn} {s : AS} {a : Act} {w : World} {T : List (Nat × Bool)}
theorem arith_sound {t : TypeId} {op : BinOp} {k : IntKind} {x y : Int} {c : AC} (h : arith op k x y = some c) : (binOp op t (.int k x) (.int k y)).run P w = .ok (c.c n) w ∧ c.ok s := by
  cases op <;> simp only [arith] at h <;> first
    | (cases h; exact ⟨by simp [binOp, Op.intArith, Op.intCmp, Op.intBits, AC.c], trivial⟩)
    | cases h
theorem bin_sound {op : BinOp} {t : TypeId} {x y : Operand} {u v r : AV} (h : bin op u v = some r) :
    (do eqGuard op t x y (u.c n) (v.c n); binOp op t (u.c n) (v.c n) : Sem Value).run P w = .ok (r.c n) w ∧ r.ok s := by
  cases u with
  | s c => cases v with
    | s c' => cases c <;> cases c' <;> simp only [bin] at h <;> first
        | cases h
        | (rename_i k x1 k' y1
           split at h
           · rename_i hk
             subst hk
             obtain ⟨c, hc, rfl⟩ := Option.map_eq_some_iff.1 h
             obtain ⟨e1, e2⟩ := arith_sound (P := P) (w := w) (n := n) (s := s) (t := t) hc
             refine ⟨?_, e2⟩
             have hg : (eqGuard op t x y (AV.c n (AV.s (AC.int k x1))) (AV.c n (AV.s (AC.int k y1)))).run P w = .ok () w := by
               simp only [eqGuard, AV.c, AC.c]
               cases op <;> simp
             rw [Sem.run_bind, hg]
             exact e1
           cases h)
    | _ => simp [bin] at h
  | _ => simp [bin] at h
theorem un_sound {op : UnOp} {u r : AV} (h : un op u = some r) : (Op.unary op (u.c n)).run P w = .ok (r.c n) w ∧ r.ok s := by
  cases u with
  | s c => cases c <;> cases op <;> simp only [un] at h <;> first
      | (cases h; done)
      | (cases h; exact ⟨by simp [Op.unary, Op.intArith, AV.c, AC.c], trivial⟩)
  | _ => simp [un] at h
theorem getAt_eq (cs : List AC) (o : Nat) : getAt cs o = cs[o]? := by
  induction cs generalizing o with
  | nil => rfl
  | cons x r ih => cases o <;> simp [getAt, ih]
theorem nthF_eq (cs : List (Nat × TypeId)) (o : Nat) : nthF cs o = cs[o]? := by
  induction cs generalizing o with
  | nil => rfl
  | cons x r ih => cases o <;> simp [nthF, ih]
theorem getAt_ok {cs : List AC} {o : Nat} {c : AC} (h : cellsOk s cs) (hg : getAt cs o = some c) : c.ok s := by
  rw [getAt_eq] at hg
  exact h c (List.mem_of_getElem? hg)
theorem sub_ok {cs : List AC} {o z : Nat} {ag : Bool} {v : AV} (h : cellsOk s cs) (hg : sub cs o z ag = some v) : v.ok s := by
  cases ag
  · simp only [sub, cond_false] at hg
    obtain ⟨c, hc, rfl⟩ := Option.map_eq_some_iff.1 hg
    exact getAt_ok h hc
  simp only [sub, cond_true] at hg
  rcases hb : Nat.ble (o + z) cs.length with _ | _
  · rw [hb] at hg; cases hg
  rw [hb] at hg; cases hg
  exact fun c hc => h c (List.mem_of_mem_drop (List.mem_of_mem_take hc))
theorem ofV_ok (s : AS) (x : Value) : (ofV x).ok s := by cases x <;> trivial
theorem loadVar_sound {t : TypeId} {i : TyI} (F : TyF P t i) (ad : Addr) (cs : List AC) (o : Nat) (v : AV) (hv : sub cs o i.size i.d.ag = some v)
    (hc : ∀ j c, cs[o + j]? = some c → j < i.size ∨ i.d.ag = false → w.cell? (ad.add j) = some (c.c n)) :
    (loadVar t ad).run P w = .ok (v.c n) w := by
  unfold loadVar
  rw [Sem.run_bind, run_isAgg' F]
  cases hag : i.d.ag with
  | false =>
    rw [hag] at hv hc
    simp only [sub, cond_false] at hv
    obtain ⟨c, hcc, rfl⟩ := Option.map_eq_some_iff.1 hv
    rw [getAt_eq] at hcc
    have := hc 0 c (by simpa using hcc) (.inr rfl)
    have h0 : ad.add 0 = ad := by simp [Addr.add]
    rw [h0] at this
    simp [this, AV.c]
  | true =>
    rw [hag] at hv
    simp only [sub, cond_true] at hv
    rcases hb : Nat.ble (o + i.size) cs.length with _ | _
    · rw [hb] at hv; cases hv
    rw [hb] at hv; cases hv
    have hle := Nat.le_of_ble_eq_true hb
    have hl : (((cs.drop o).take i.size).map (AC.c n)).length = i.size := by simp; omega
    have := run_loadCells_list (P := P) w ad (((cs.drop o).take i.size).map (AC.c n)) (fun j u hu => by
      rw [List.getElem?_map, Option.map_eq_some_iff] at hu
      obtain ⟨c, hcj, rfl⟩ := hu
      rw [List.getElem?_take] at hcj
      split at hcj
      · rename_i hj
        rw [List.getElem?_drop] at hcj
        exact hc j c hcj (.inl hj)
      cases hcj)
    rw [hl] at this
    simp [run_sizeOf' F, this, AV.c, cellsV]
theorem ptrAt_box {x : Value} {g off : Nat} (h : x = .pointer (some ⟨g, 0, none⟩)) : ptrAt x off = .pointer (some ⟨g, off, none⟩) := by subst h; rfl
theorem add_pl (g o j : Nat) : (⟨g, o, none⟩ : Addr).add j = ⟨g, o + j, none⟩ := by unfold Addr.add; split <;> simp_all
theorem add_add (a : Addr) (i j : Nat) : (a.add i).add j = a.add (i + j) := by
  unfold Addr.add
  by_cases hi : i = 0
  · subst hi; simp
  by_cases hj : j = 0
  · subst hj; simp [hi]
  simp [hi, hj]; omega
theorem ldv_sound (hT : TTok P tt) (hh : HSat cx n s w) {t : TypeId} {u v : AV} (hu : u.ok s) (h : ldv tt s t u = some v) :
    (Instr.loadAt t (u.c n)).run P w = .ok (v.c n) w ∧ v.ok s := by
  cases u with
  | s c =>
    cases c with
    | p id off =>
      simp only [ldv] at h
      split at h
      · rename_i i ty cs hi hf
        obtain ⟨F⟩ := hT.get hi
        have hm := fnd_mem hf
        obtain ⟨g, hg, _, hheap⟩ := hh.ents _ hm
        refine ⟨?_, sub_ok (hh.oks _ hm) h⟩
        simp only [AV.c, AC.c, ptrAt_box hg, Instr.loadAt, Instr.sureAddr, Sem.run_bind, Sem.run_pure, Result.andThen_ok]
        refine loadVar_sound F _ cs off v h fun j c hc _ => ?_
        rw [add_pl, cell_of_row w g _ _ _ _ hheap]
        simp [cellsV, hc]
      cases h
    | ep id ix sz off =>
      simp only [ldv] at h
      split at h
      · rename_i i kd e sz' α l enc z hi hf
        rcases hb : (Nat.beq sz sz' && Nat.ble (off + i.size) sz && Nat.ble 1 i.size) with _ | _
        · rw [hb] at h; cases h
        rw [hb] at h
        simp only [cond_true] at h
        simp only [Bool.and_eq_true] at hb
        have hsz := Nat.eq_of_beq_eq_true hb.1.1
        have hle := Nat.le_of_ble_eq_true hb.1.2
        have hle1 := Nat.le_of_ble_eq_true hb.2
        subst hsz
        obtain ⟨F⟩ := hT.get hi
        have hm := fnd_mem hf
        have hlen := hu.2 _ hf
        simp only [HE.len] at hlen
        refine ⟨?_, sub_ok (fun c hc => by obtain ⟨x, _, rfl⟩ := List.mem_map.1 hc; exact ofV_ok s x) h⟩
        have hrd : (∀ y, (enc y).length = sz) ∧ ∃ ad, n id = .slice (some ad) l.length (match n id with | .slice _ _ c => c | _ => 0) ∧ ∀ o, o < sz → w.cell? (ad.add (ix.toNat * sz + o)) = some ((enc (l.getD ix.toNat z)).getD o undef) := by
          have he := hh.ents _ hm
          have hrd : (∀ y, (enc y).length = sz) → Reads w (n id) sz l enc z → (∀ y, (enc y).length = sz) ∧ ∃ ad, n id = .slice (some ad) l.length (match n id with | .slice _ _ c => c | _ => 0) ∧ ∀ o, o < sz → w.cell? (ad.add (ix.toNat * sz + o)) = some ((enc (l.getD ix.toNat z)).getD o undef) := by
            rintro h1 ⟨A, c, hx, _, _, h4⟩
            obtain ⟨ad, rfl, hc⟩ := h4 (by omega)
            exact ⟨h1, ad, by simp only [hx], fun o ho => hc _ (by omega) o ho⟩
          cases kd with
          | ro => exact hrd he.1 he.2
          | full => exact hrd he.1 he.2.1
          | own =>
            obtain ⟨h1, _, h3⟩ := he
            rcases h3.2 with ⟨_, h0⟩ | ⟨g, cap, cur, hx, _, hheap, hcap, _, hcur, htk⟩
            · omega
            refine ⟨h1, ⟨g, 0, none⟩, by simp only [hx], fun o ho => ?_⟩
            have hi' : ix.toNat < l.length := by omega
            have hlt : ix.toNat * sz + o < l.length * sz := by
              have : (ix.toNat + 1) * sz ≤ l.length * sz := Nat.mul_le_mul_right _ hi'
              rw [Nat.add_mul] at this; omega
            rw [add_pl, Nat.zero_add, cell_of_row w g _ _ _ _ hheap]
            have e1 : cur[ix.toNat * sz + o]? = (flat l enc)[ix.toNat * sz + o]? := by
              rw [← htk, List.getElem?_take, if_pos hlt]; simp
            rw [e1]
            have : ∀ (l : List α) (j : Nat), j < l.length → (flat l enc)[j * sz + o]? = some ((enc (l.getD j z)).getD o undef) := by
              intro l
              induction l with
              | nil => intro j hj; simp at hj
              | cons y r ih =>
                intro j hj
                cases j with
                | zero =>
                  simp only [flat, List.flatMap_cons, Nat.zero_mul, Nat.zero_add]
                  rw [List.getElem?_append_left (by rw [h1]; exact ho)]
                  simp [List.getD, List.getElem?_eq_getElem (show o < (enc y).length by rw [h1]; exact ho)]
                | succ j =>
                  simp only [flat, List.flatMap_cons]
                  rw [List.getElem?_append_right (by rw [h1, Nat.add_mul]; omega)]
                  have e2 : (j + 1) * sz + o - (enc y).length = j * sz + o := by rw [h1, Nat.add_mul]; omega
                  rw [e2]
                  have := ih j (by simpa using hj)
                  simpa [flat, List.getD] using this
            exact this l _ hi'
        obtain ⟨h1, ad, hx, hc⟩ := hrd
        have hp : elAt (n id) (ix.toNat * sz + off) = .pointer (some (ad.add (ix.toNat * sz + off))) := by rw [hx]; rfl
        simp only [AV.c, AC.c, hp, Instr.loadAt, Instr.sureAddr, Sem.run_bind, Sem.run_pure, Result.andThen_ok]
        refine loadVar_sound F _ _ off v h fun j c hcj hj => ?_
        rw [List.getElem?_map, Option.map_eq_some_iff] at hcj
        obtain ⟨y, hy, rfl⟩ := hcj
        have hlt : off + j < sz := by
          have := (List.getElem?_eq_some_iff.1 hy).1
          rw [h1] at this
          exact this
        rw [add_add, Nat.add_assoc, hc _ hlt, ofV_c]
        generalize enc (l.getD ix.toNat z) = E at hy ⊢
        simp [List.getD, hy]
      cases h
    | _ => simp [ldv] at h
  | _ => simp [ldv] at h
theorem run_fieldPlace {t : TypeId} {i : TyI} (F : TyF P t i) (h : i.size ≠ 0) (ad : Addr) (f : Field) (hf : f.type = t) : (fieldPlace ad f).run P w = .ok (ad.add f.offset) w := by
  subst hf
  simp [fieldPlace, Sem.run_bind, run_sizeOf' F, h]
theorem fields_of {t : TypeId} {z b : Nat} {zv : Value} {fs : List (Nat × TypeId)} (F : TyF P t ⟨z, b, zv, .struct fs⟩) : ∃ F0 : Array Field, F.desc = .struct F0 ∧ F0.toList.map (fun f => (f.offset, f.type)) = fs := by
  have := F.td
  cases hd : F.desc <;> rw [hd] at this <;> simp only [tdOf] at this <;> first
    | (cases this; done)
    | (rename_i F0; exact ⟨F0, rfl, by injection this⟩)
theorem field_of {t : TypeId} {z b : Nat} {zv : Value} {fs : List (Nat × TypeId)} (F : TyF P t ⟨z, b, zv, .struct fs⟩) {j o : Nat} {ft : TypeId} (h : nthF fs j = some (o, ft)) :
    ∃ (F0 : Array Field) (f : Field), F.desc = .struct F0 ∧ F0[j]? = some f ∧ f.offset = o ∧ f.type = ft := by
  obtain ⟨F0, hd, hm⟩ := fields_of F
  rw [nthF_eq, ← hm, List.getElem?_map, Option.map_eq_some_iff] at h
  obtain ⟨f, hf, he⟩ := h
  simp only [Prod.mk.injEq] at he
  exact ⟨F0, f, hd, by simpa using hf, he.1, he.2⟩
theorem fldO_sound (hT : TTok P tt) {st : TypeId} {f o : Nat} (h : fldO tt st f = some o) (ad : Addr) : (Instr.fieldAt st (.pointer (some ad)) f).run P w = .ok (.pointer (some (ad.add o))) w := by
  simp only [fldO] at h
  split at h <;> try (cases h; done)
  rename_i z b zv fs hst
  split at h <;> try (cases h; done)
  rename_i o' ft hnf
  split at h <;> try (cases h; done)
  rename_i i hft
  obtain ⟨F⟩ := hT.get hst
  obtain ⟨G⟩ := hT.get hft
  rcases hb : Nat.beq i.size 0 with _ | _
  · rw [hb] at h
    cases h
    obtain ⟨F0, fd, hd, hfd, ho, hty⟩ := field_of F hnf
    have hne : i.size ≠ 0 := fun e => by rw [e] at hb; cases hb
    simp only [Instr.fieldAt, Sem.run_bind, run_underlying F.hdesc, hd, Result.andThen_ok, hfd, Instr.sureAddr, Sem.run_pure, run_fieldPlace G hne ad fd hty, ho]
  rw [hb] at h; cases h
theorem box_addr (hh : HSat cx n s w) {id : Nat} (h : isBox (fnd s.hp id) = true) : ∃ g, n id = .pointer (some ⟨g, 0, none⟩) := by
  rcases hf : fnd s.hp id with _ | e
  · rw [hf] at h; cases h
  rw [hf] at h
  cases e with
  | box ty cs => obtain ⟨g, hg, _⟩ := hh.ents _ (fnd_mem hf); exact ⟨g, hg⟩
  | _ => cases h
theorem sl_addr (hh : HSat cx n s w) {id : Nat} {kd : SK} {e : TypeId} {sz : Nat} {α : Type} {l : List α} {enc : α → List Value} {z : α} (hf : fnd s.hp id = some (.sl kd e sz l enc z)) :
    ∃ A c, n id = .slice A l.length c ∧ l.length ≤ c ∧ c ≤ maxLen ∧ (0 < l.length → ∃ ad, A = some ad) := by
  have he := hh.ents _ (fnd_mem hf)
  have hrd : Reads w (n id) sz l enc z → ∃ A c, n id = .slice A l.length c ∧ l.length ≤ c ∧ c ≤ maxLen ∧ (0 < l.length → ∃ ad, A = some ad) := by
    rintro ⟨A, c, hx, h2, h3, h4⟩
    exact ⟨A, c, hx, h2, h3, fun hp => by obtain ⟨ad, h, _⟩ := h4 hp; exact ⟨ad, h⟩⟩
  cases kd with
  | ro => exact hrd he.2
  | full => exact hrd he.2.1
  | own =>
    obtain ⟨h1, _, h3⟩ := he
    rcases h3.2 with ⟨hx, h0⟩ | ⟨g, cap, cur, hx, _, hheap, hcap, hm, _⟩
    · have hl : l = [] := List.eq_nil_of_length_eq_zero h0
      subst hl
      exact ⟨none, 0, hx, Nat.le_refl _, Nat.zero_le _, fun hp => absurd hp (by simp)⟩
    exact ⟨_, cap, hx, hcap, hm, fun _ => ⟨_, rfl⟩⟩
theorem fld_sound (hT : TTok P tt) (hh : HSat cx n s w) {st : TypeId} {f : Nat} {u v : AV} (hu : u.ok s) (h : fld tt s st f u = some v) :
    (Instr.fieldAt st (u.c n) f).run P w = .ok (v.c n) w ∧ v.ok s := by
  cases u with
  | s c =>
    cases c with
    | p id off =>
      simp only [fld] at h
      rcases hb : isBox (fnd s.hp id) with _ | _
      · rw [hb] at h; cases h
      rw [hb] at h
      obtain ⟨o, ho, rfl⟩ := Option.map_eq_some_iff.1 h
      obtain ⟨g, hg⟩ := box_addr hh hb
      refine ⟨?_, hu⟩
      simp only [AV.c, AC.c, hg, ptrAt]
      rw [fldO_sound hT ho, add_pl]
    | ep id ix sz off =>
      simp only [fld] at h
      rcases hb : isSl (fnd s.hp id) with _ | _
      · rw [hb] at h; cases h
      rw [hb] at h
      obtain ⟨o, ho, rfl⟩ := Option.map_eq_some_iff.1 h
      refine ⟨?_, hu⟩
      rcases hf : fnd s.hp id with _ | e
      · rw [hf] at hb; cases hb
      cases e with
      | sl kd e sz' l enc z =>
        have hlen := hu.2 _ hf
        simp only [HE.len] at hlen
        obtain ⟨A, c, hx, _, _, hA⟩ := sl_addr hh hf
        obtain ⟨ad, rfl⟩ := hA (by omega)
        simp only [AV.c, AC.c, hx, elAt]
        rw [fldO_sound hT ho, add_add, Nat.add_assoc]
      | _ => rw [hf] at hb; cases hb
    | v x =>
      simp only [fld] at h
      split at h <;> try (rename_i h1; cases h1; done)
      · rename_i h1; cases h1
        rename_i g off
        obtain ⟨o, ho, rfl⟩ := Option.map_eq_some_iff.1 h
        refine ⟨?_, trivial⟩
        simp only [AV.c, AC.c]
        rw [fldO_sound hT ho, add_pl]
      cases h
    | _ => simp [fld] at h
  | _ => simp [fld] at h
theorem run_part {t : TypeId} {i : TyI} (F : TyF P t i) (cs : List AC) (o : Nat) (v : AV) (hv : sub cs o i.size i.d.ag = some v) : (part t (cellsV n cs) o).run P w = .ok (v.c n) w := by
  unfold part
  rw [Sem.run_bind, run_isAgg' F]
  cases hag : i.d.ag with
  | false =>
    rw [hag] at hv
    simp only [sub, cond_false] at hv
    obtain ⟨c, hcc, rfl⟩ := Option.map_eq_some_iff.1 hv
    rw [getAt_eq] at hcc
    have : (cellsV n cs)[o]? = some (c.c n) := by simp [cellsV, hcc]
    simp [this, AV.c]
  | true =>
    rw [hag] at hv
    simp only [sub, cond_true] at hv
    rcases hb : Nat.ble (o + i.size) cs.length with _ | _
    · rw [hb] at hv; cases hv
    rw [hb] at hv; cases hv
    have hle := Nat.le_of_ble_eq_true hb
    have : (cellsV n cs).extract o (o + i.size) = cellsV n ((cs.drop o).take i.size) := by
      apply Array.ext'
      simp [cellsV, List.map_take, List.map_drop, List.extract_eq_take_drop]
    simp [run_sizeOf' F, AV.c, this]
theorem fldV_sound (hT : TTok P tt) {st : TypeId} {f : Nat} {u v : AV} (hu : u.ok s) (h : fldV tt st f u = some v) : (Instr.field st (u.c n) f).run P w = .ok (v.c n) w ∧ v.ok s := by
  cases u with
  | g cs =>
    simp only [fldV] at h
    split at h <;> try (cases h; done)
    rename_i z b zv fs hst
    split at h <;> try (cases h; done)
    rename_i o ft hnf
    split at h <;> try (cases h; done)
    rename_i i hft
    obtain ⟨F⟩ := hT.get hst
    obtain ⟨G⟩ := hT.get hft
    obtain ⟨F0, fd, hd, hfd, ho, hty⟩ := field_of F hnf
    refine ⟨?_, sub_ok hu h⟩
    subst ho hty
    simp only [AV.c, Instr.field, Sem.run_bind, run_underlying F.hdesc, hd, Result.andThen_ok, hfd, asAgg, Sem.run_pure, run_part G cs _ v h]
  | _ => simp [fldV] at h
theorem ext_sound {vs : List (Bool × List AC)} {i : Nat} {v : AV} (hu : ∀ x ∈ vs, cellsOk s x.2) (h : ext vs i = some v) : (vs.map (part1 n))[i]? = some (v.c n) ∧ v.ok s := by
  induction vs generalizing i with
  | nil => simp [ext] at h
  | cons x r ih =>
    cases i with
    | zero =>
      obtain ⟨b, cs⟩ := x
      have hx := hu _ (List.mem_cons_self)
      cases b with
      | true => simp only [ext] at h; cases h; exact ⟨rfl, hx⟩
      | false =>
        match cs, hx, h with
        | [c], hx, h => simp only [ext] at h; cases h; exact ⟨rfl, hx c (by simp)⟩
        | [], _, h => simp [ext] at h
        | _ :: _ :: _, _, h => simp [ext] at h
    | succ i =>
      have h' : ext r i = some v := by
        obtain ⟨b, cs⟩ := x
        cases b <;> cases cs <;> simpa [ext] using h
      simpa using ih (fun y hy => hu y (List.mem_cons_of_mem _ hy)) h'
theorem spl_map (f : AC → Value) (cs vs : List AC) (o : Nat) : (spl cs o vs).map f = (cs.map f).take o ++ (if o ≤ cs.length then vs.map f else []) ++ (cs.map f).drop (o + vs.length) := by
  induction cs generalizing o with
  | nil => cases o <;> simp [spl]
  | cons c r ih =>
    cases o with
    | zero => simp [spl]
    | succ o => simp [spl, ih, Nat.add_right_comm]
theorem spl_ok {cs vs : List AC} (hc : cellsOk s cs) (hv : cellsOk s vs) (o : Nat) : cellsOk s (spl cs o vs) := by
  induction cs generalizing o with
  | nil => cases o with
    | zero => intro c h; simp [spl] at h; exact hv c h
    | succ o => intro c h; simp [spl] at h
  | cons x r ih => cases o with
    | zero =>
      intro c h
      simp only [spl, List.mem_append] at h
      rcases h with h | h
      · exact hv c h
      exact hc c (List.mem_of_mem_drop h)
    | succ o =>
      intro c h
      simp only [spl, List.mem_cons] at h
      rcases h with rfl | h
      · exact hc _ (by simp)
      exact ih (fun y hy => hc y (by simp [hy])) o c h
theorem foldl_set (l : List Value) (cs : Array Value) (o k : Nat) (h : o + k + l.length ≤ cs.size) :
    (l.zipIdx k).foldl (fun cs (x : Value × Nat) => cs.setIfInBounds (o + x.2) x.1) cs = (cs.toList.take (o + k) ++ l ++ cs.toList.drop (o + k + l.length)).toArray := by
  induction l generalizing cs k with
  | nil => simp
  | cons v r ih =>
    simp only [List.zipIdx_cons, List.foldl_cons]
    rw [ih _ _ (by simp at h ⊢; omega)]
    congr 1
    have e := list_seg_step cs.toList (o + k) v r (by simp at h ⊢; omega)
    simp only [Array.toList_setIfInBounds]
    simpa [Nat.add_assoc] using e
theorem one_c (one : ∀ id, (n id).oneCell' = true) {c : AC} (h : c.one = true) : (c.c n).oneCell' = true := by
  cases c with
  | p id o => simp only [AC.c]; unfold ptrAt; split <;> rfl
  | ep id i sz o => simp only [AC.c]; unfold elAt; split <;> rfl
  | pi id i sz o => simp only [AC.c]; unfold ptrAt; split <;> rfl
  | ref id => exact one id
  | sb id o z l h m => simp only [AC.c]; unfold sbAt; split <;> rfl
  | v y => exact h
  | _ => rfl
theorem cells_one {x : Value} (h : x.oneCell' = true) : x.cells = #[x] := by cases x <;> first | rfl | cases h
theorem cells_c (one : ∀ id, (n id).oneCell' = true) {v : AV} (hg : v.good = true) : (v.c n).cells = (v.cells.map (AC.c n)).toArray := by
  cases v with
  | s c => simp [AV.c, AV.cells, cells_one (one_c one hg)]
  | g cs => simp [AV.c, Value.cells, cellsV, AV.cells]
  | t vs => cases hg
def goods : List (Nat × AV) → Bool
  | [] => true
  | x :: r => x.2.good && goods r
theorem fill_sound (one : ∀ id, (n id).oneCell' = true) {place : Nat → Option (Nat × Nat)} {cs r : List AC} {vs : List (Nat × AV)} (hg : goods vs = true) (h : fillA place cs vs = some r) :
    Instr.fill place (cellsV n cs) (vs.map fun x => (x.1, x.2.c n)) = some (cellsV n r) := by
  induction vs generalizing cs with
  | nil => simp only [fillA] at h; cases h; rfl
  | cons x vs ih =>
    obtain ⟨i, v⟩ := x
    simp only [goods, Bool.and_eq_true] at hg
    simp only [fillA] at h
    split at h
    · cases h
    rename_i o z hp
    rcases hb : (Nat.beq v.cells.length z && Nat.ble (o + z) cs.length) with _ | _
    · rw [hb] at h; cases h
    rw [hb] at h
    simp only [Bool.and_eq_true] at hb
    have h1 := Nat.eq_of_beq_eq_true hb.1
    have h2 := Nat.le_of_ble_eq_true hb.2
    simp only [List.map_cons, Instr.fill, hp]
    rw [cells_c one hg.1]
    simp only [List.size_toArray, List.length_map]
    rw [if_neg (by simp [cellsV]; omega)]
    rw [← ih hg.2 h]
    congr 1
    have := foldl_set (v.cells.map (AC.c n)) (cellsV n cs) o 0 (by simp [cellsV]; omega)
    simp only [Nat.add_zero] at this
    rw [Array.zipIdx_toArray, List.foldl_toArray, this]
    unfold cellsV
    rw [spl_map, if_pos (by omega)]
    simp
theorem fill_ok {place : Nat → Option (Nat × Nat)} {cs r : List AC} {vs : List (Nat × AV)} (hc : cellsOk s cs) (hv : ∀ x ∈ vs, cellsOk s x.2.cells) (h : fillA place cs vs = some r) : cellsOk s r := by
  induction vs generalizing cs with
  | nil => simp only [fillA] at h; cases h; exact hc
  | cons x vs ih =>
    obtain ⟨i, v⟩ := x
    simp only [fillA] at h
    split at h
    · cases h
    rename_i o z hp
    rcases hb : (Nat.beq v.cells.length z && Nat.ble (o + z) cs.length) with _ | _
    · rw [hb] at h; cases h
    rw [hb] at h
    exact ih (spl_ok hc (hv _ List.mem_cons_self) o) (fun y hy => hv y (List.mem_cons_of_mem _ hy)) h
theorem cells_ok {v : AV} (h : v.ok s) : cellsOk s v.cells := by
  cases v with
  | s c => intro c' hc'; simp [AV.cells] at hc'; subst hc'; exact h
  | g cs => exact h
  | t vs => intro c' hc'; simp [AV.cells] at hc'
theorem evs_sound (henv : ∀ x ∈ s.env, EntOk n s a x) (hH : Holds a T) {ps : List (Nat × Operand)} {vs : List (Nat × AV)} (h : evs s T ps = some vs) :
    ps.map (fun x => (x.1, a.eval x.2)) = vs.map (fun x => (x.1, x.2.c n)) ∧ goods vs = true ∧ ∀ x ∈ vs, x.2.ok s := by
  induction ps generalizing vs with
  | nil => simp only [evs] at h; cases h; exact ⟨rfl, rfl, fun x hx => by cases hx⟩
  | cons p ps ih =>
    obtain ⟨i, x⟩ := p
    simp only [evs] at h
    split at h
    · rename_i v l hv hl
      rcases hb : v.good with _ | _
      · rw [hb] at h; cases h
      rw [hb] at h; cases h
      obtain ⟨h1, h2, h3⟩ := ih hl
      obtain ⟨e1, e2⟩ := ev_sound henv hH hv
      refine ⟨by simp [h1, e1], by simp [goods, hb, h2], fun y hy => ?_⟩
      rcases List.mem_cons.1 hy with rfl | hy
      · exact e2
      exact h3 y hy
    cases h
theorem mapM_places (hT : TTok P tt) : ∀ (fs : List Field), allTy tt (fs.map fun f => (f.offset, f.type)) = true → (fs.mapM fun f => (do pure (f.offset, ← sizeOf f.type) : Sem (Nat × Nat))).run P w =
    .ok (fs.map fun f => (f.offset, ((tyL tt f.type).map (·.size)).getD 0)) w
  | [], _ => rfl
  | f :: fs, h => by
    simp only [List.map_cons, allTy, Bool.and_eq_true] at h
    obtain ⟨i, hi⟩ := Option.isSome_iff_exists.1 h.1
    obtain ⟨F⟩ := hT.get hi
    simp only [List.mapM_cons, Sem.run_bind, run_sizeOf' F, Result.andThen_ok, Sem.run_pure, mapM_places hT fs h.2, List.map_cons, hi, Option.map_some, Option.getD_some]
theorem zero_cells {z : Value} : ∀ n : Vn, z.cells = cellsV n (avOf z).cells := fun n => by
  cases z with
  | agg cs => exact (cellsV_ofV n cs).symm
  | _ => rfl
theorem bld_sound (hT : TTok P tt) (one : ∀ id, (n id).oneCell' = true) {t : TypeId} {vs : List (Nat × AV)} {v : AV} (hg : goods vs = true) (hv : ∀ x ∈ vs, x.2.ok s) (h : bld tt t vs = some v) :
    (Instr.build t (vs.map fun x => (x.1, x.2.c n)).toArray).run P w = .ok (v.c n) w ∧ v.ok s := by
  simp only [bld] at h
  split at h
  · rename_i z b zv fs ht
    obtain ⟨F⟩ := hT.get ht
    rcases hb : allTy tt fs with _ | _
    · rw [hb] at h; cases h
    rw [hb] at h
    obtain ⟨r, hr, rfl⟩ := Option.map_eq_some_iff.1 h
    obtain ⟨F0, hd, hm⟩ := fields_of F
    refine ⟨?_, fill_ok (cells_ok (avOf_ok s _)) (fun x hx => cells_ok (hv x hx)) hr⟩
    have hpl : (F0.mapM fun f => (do pure (f.offset, ← sizeOf f.type) : Sem (Nat × Nat))).run P w = .ok ((F0.toList.map fun f => (f.offset, ((tyL tt f.type).map (·.size)).getD 0)).toArray) w := by
      rw [Array.mapM_eq_mapM_toList]
      simp only [Sem.run_map]
      rw [mapM_places hT F0.toList (by rw [hm]; exact hb)]
      rfl
    have hplace : ∀ i, plc tt fs i = (F0.toList.map fun f => (f.offset, ((tyL tt f.type).map (·.size)).getD 0)).toArray[i]? := by
      intro i
      have hall : ∀ (l : List Field), allTy tt (l.map fun f => (f.offset, f.type)) = true → ∀ i, plc tt (l.map fun f => (f.offset, f.type)) i = (l.map fun f => (f.offset, ((tyL tt f.type).map (·.size)).getD 0))[i]? := by
        intro l
        induction l with
        | nil => intro _ i; rfl
        | cons f l ih =>
          intro h i
          simp only [List.map_cons, allTy, Bool.and_eq_true] at h
          cases i with
          | zero =>
            obtain ⟨j, hj⟩ := Option.isSome_iff_exists.1 h.1
            simp [plc, nthF, hj]
          | succ i => simpa [plc, nthF] using ih h.2 i
      have := hall F0.toList (by rw [hm]; exact hb) i
      rw [hm] at this
      simpa using this
    have hf := fill_sound (n := n) one hg hr
    simp only [Instr.build, Sem.run_bind, run_zero' F, Result.andThen_ok, run_underlying F.hdesc, hd, hpl, zero_cells n]
    have hpe : (fun i => plc tt fs i) = fun i => (F0.toList.map fun f => (f.offset, ((tyL tt f.type).map (·.size)).getD 0)).toArray[i]? := funext hplace
    rw [show plc tt fs = _ from hpe] at hf
    simp only [hf]
    rfl
  · rename_i z b zv m e ht
    split at h
    · rename_i j hj
      obtain ⟨F⟩ := hT.get ht
      obtain ⟨G⟩ := hT.get hj
      obtain ⟨r, hr, rfl⟩ := Option.map_eq_some_iff.1 h
      refine ⟨?_, fill_ok (cells_ok (avOf_ok s _)) (fun x hx => cells_ok (hv x hx)) hr⟩
      have hd : ∃ m e', F.desc = .array m e' ∧ e' = e := by
        have := F.td
        cases hd : F.desc <;> rw [hd] at this <;> simp only [tdOf] at this <;> first
          | (cases this; done)
          | (rename_i m' e'; exact ⟨m', e', rfl, by injection this⟩)
      obtain ⟨m', e', hd, rfl⟩ := hd
      have hf := fill_sound (n := n) one hg hr
      simp only [Instr.build, Sem.run_bind, run_zero' F, Result.andThen_ok, run_underlying F.hdesc, hd, run_sizeOf' G, zero_cells n, hf]
      rfl
    cases h
  cases h
theorem isSlT_spec (hT : TTok P tt) {t : TypeId} (h : isSlT (tyL tt t) = true) : ∃ e d, P.underlying t = some d ∧ d = .slice e := by
  rcases ht : tyL tt t with _ | ⟨z, b, zv, d⟩
  · rw [ht] at h; cases h
  rw [ht] at h
  cases d with
  | slice e =>
    obtain ⟨F⟩ := hT.get ht
    have := F.td
    cases hd : F.desc <;> rw [hd] at this <;> simp only [tdOf] at this <;> first
      | (cases this; done)
      | exact ⟨_, _, by rw [F.hdesc, hd], rfl⟩
  | _ => cases h
theorem slLen_spec (hh : HSat cx n s w) {id m : Nat} (h : slLen (fnd s.hp id) = some m) : ∃ A c, n id = .slice A m c ∧ m ≤ c ∧ c ≤ maxLen := by
  rcases hf : fnd s.hp id with _ | e
  · rw [hf] at h; cases h
  rw [hf] at h
  cases e with
  | sl kd e sz l enc z => cases h; obtain ⟨A, c, h1, h2, h3, _⟩ := sl_addr hh hf; exact ⟨A, c, h1, h2, h3⟩
  | _ => cases h
theorem nilS_spec {x : Value} (h : nilS x = true) : x = .slice none 0 0 := by
  unfold nilS at h
  split at h
  · rfl
  cases h
theorem run_len (hT : TTok P tt) (hh : HSat cx n s w) {t : TypeId} {u v : AV} (h : lenOf tt s t u = some v) (ty : TypeId) :
    (Builtin.len_ #[t] ty #[u.c n]).run P w = .ok (v.c n) w ∧ v.ok s := by
  cases u with
  | s c =>
    cases c with
    | ref id =>
      simp only [lenOf] at h
      rcases hb : isSlT (tyL tt t) with _ | _
      · rw [hb] at h; cases h
      rw [hb] at h
      obtain ⟨m, hm, rfl⟩ := Option.map_eq_some_iff.1 h
      obtain ⟨e, d, hd, rfl⟩ := isSlT_spec hT hb
      obtain ⟨A, c, hx, _⟩ := slLen_spec hh hm
      refine ⟨?_, trivial⟩
      simp [Builtin.len_, AV.c, AC.c, hx, run_underlying hd, goInt]
    | v x =>
      simp only [lenOf] at h
      rcases hb : (isSlT (tyL tt t) && nilS x) with _ | _
      · rw [hb] at h; cases h
      rw [hb] at h; cases h
      simp only [Bool.and_eq_true] at hb
      obtain ⟨e, d, hd, rfl⟩ := isSlT_spec hT hb.1
      obtain rfl := nilS_spec hb.2
      refine ⟨?_, trivial⟩
      simp [Builtin.len_, AV.c, AC.c, run_underlying hd, goInt]
    | _ => simp [lenOf] at h
  | _ => simp [lenOf] at h
theorem evl_sound (henv : ∀ x ∈ s.env, EntOk n s a x) (hH : Holds a T) {xs : List Operand} {vs : List AV} (h : evl s T xs = some vs) :
    xs.map a.eval = vs.map (AV.c n) ∧ ∀ v ∈ vs, v.ok s := by
  induction xs generalizing vs with
  | nil => simp only [evl] at h; cases h; exact ⟨rfl, fun x hx => by cases hx⟩
  | cons x xs ih =>
    simp only [evl] at h
    split at h
    · rename_i v l hv hl
      cases h
      obtain ⟨h1, h3⟩ := ih hl
      obtain ⟨e1, e2⟩ := ev_sound henv hH hv
      refine ⟨by simp [h1, e1], fun y hy => ?_⟩
      rcases List.mem_cons.1 hy with rfl | hy
      · exact e2
      exact h3 y hy
    cases h
theorem blt_sound (hT : TTok P tt) (hh : HSat cx n s w) {b : Builtin} {vs : List AV} {ts : List TypeId} {v : AV} (h : blt tt s b vs ts = some v) (ty : TypeId) (cs : Array Bool) :
    (builtin b ts.toArray ty cs (vs.map (AV.c n)).toArray).run P w = .ok (.value (v.c n)) w ∧ v.ok s := by
  unfold blt at h
  split at h
  · obtain ⟨r1, r2⟩ := run_len hT hh h ty
    refine ⟨?_, r2⟩
    simp [builtin, r1]
  · cases h
    exact ⟨by simp [builtin, Builtin.max_, Builtin.max2, AV.c, AC.c, mx], trivial⟩
  · cases h
    exact ⟨by simp [builtin, Builtin.min_, Builtin.min2, AV.c, AC.c, mn], trivial⟩
  cases h
theorem idxV_sound (hT : TTok P tt) {t : TypeId} {cs : List AC} {k : IntKind} {i : Int} {v : AV} (hc : cellsOk s cs) (h : idxV tt t cs i = some v) : (Instr.index t (.agg (cellsV n cs)) (.int k i)).run P w = .ok (v.c n) w ∧ v.ok s := by
  unfold idxV at h
  split at h
  · rename_i z b zv m e ht
    split at h
    · rename_i ei hei
      split at h
      · rename_i j
        rcases hb : Nat.ble (j + 1) m with _ | _
        · rw [hb] at h; cases h
        rw [hb] at h
        have hlt := Nat.le_of_ble_eq_true hb
        obtain ⟨F⟩ := hT.get ht
        obtain ⟨G⟩ := hT.get hei
        have hd : F.desc = .array m e := by
          have := F.td
          cases hd : F.desc <;> rw [hd] at this <;> simp only [tdOf] at this <;> first
            | (cases this; done)
            | (injection this with h1 h2; rw [h1, h2])
        refine ⟨?_, sub_ok hc h⟩
        simp only [Instr.index, asIntOf, Sem.run_bind, Sem.run_pure, Result.andThen_ok, run_underlying F.hdesc, hd]
        rw [if_pos (show 0 ≤ Int.ofNat j ∧ Int.ofNat j < (m : Int) from ⟨Int.natCast_nonneg j, Int.ofNat_lt.2 hlt⟩)]
        simp only [Sem.run_bind, run_sizeOf' G, Result.andThen_ok]
        exact run_part G cs _ v h
      cases h
    cases h
  cases h
theorem holds_cons {t : Nat} {b : Bool} (hH : Holds a T) (h : a.tmps.getD t undef = .bool b) : Holds a ((t, b) :: T) := fun x hx => by
  rcases List.mem_cons.1 hx with rfl | hx
  · exact h
  exact hH x hx
theorem pickT_holds {c : Operand} {g : Bool} (hH : Holds a T) (hc : a.eval c = .bool g) : Holds a (pickT c T g) := by
  cases c with
  | tmp t => exact holds_cons hH hc
  | _ => exact hH
theorem isB_eval {b : Bool} {x : Operand} (h : isB b x = true) : a.eval x = .bool b := by
  cases x with
  | const v => cases v with
    | bool c => simp [isB] at h; simp [Act.eval, h]
    | _ => cases h
  | _ => cases h
theorem opv_sound (hT : TTok P tt) (henv : ∀ x ∈ s.env, EntOk n s a x) (hH : Holds a T) (hh : HSat cx n s w) {o : Oper} {v : AV} (h : opv tt s T o.op = some v) :
    (execOp a.eval o).run P w = .ok (.value (v.c n)) w ∧ v.ok s := by
  unfold execOp
  unfold opv at h
  split at h
  · rename_i x ho
    obtain ⟨e1, e2⟩ := ev_sound henv hH h
    rw [ho]; simp [e1, e2]
  · rename_i x ho
    obtain ⟨e1, e2⟩ := ev_sound henv hH h
    rw [ho]; simp [e1, e2]
  · rename_i c x y ho
    split at h <;> try (cases h; done)
    rename_i g hg
    split at h <;> try (cases h; done)
    rename_i u u' hu hu'
    have h9 : (bif isB true x then some (AV.s (AC.bool (g || u'))) else bif isB false y then some (AV.s (AC.bool (g && u))) else some (AV.s (AC.bool (bif g then u else u')))) = some (AV.s (AC.bool (bif isB true x then g || u' else bif isB false y then g && u else bif g then u else u'))) := by cases isB true x <;> cases isB false y <;> rfl
    rw [h9] at h
    cases h
    obtain ⟨e1, _⟩ := ev_sound henv hH hg
    have hpt := pickT_holds (T := T) hH e1
    refine ⟨?_, trivial⟩
    rw [ho]
    simp only [AV.c, AC.c] at e1
    simp only [Sem.run_bind, e1, asBool, Sem.run_pure, Result.andThen_ok, AV.c, AC.c]
    cases hb : g with
    | true =>
      rw [hb] at hpt
      obtain ⟨e2, _⟩ := ev_sound henv hpt hu
      simp only [AV.c, AC.c] at e2
      rcases h1 : isB true x with _ | _
      · rcases h2 : isB false y with _ | _ <;> simp [e2]
      have := isB_eval (a := a) h1
      rw [e2] at this
      cases this
      simp [e2]
    | false =>
      rw [hb] at hpt
      obtain ⟨e2, _⟩ := ev_sound henv hpt hu'
      simp only [AV.c, AC.c] at e2
      rcases h1 : isB true x with _ | _
      · rcases h2 : isB false y with _ | _
        · simp [e2]
        have := isB_eval (a := a) h2
        rw [e2] at this
        cases this
        simp [e2]
      simp [e2]
  · rename_i op t x y t' ho
    split at h <;> try (cases h; done)
    rename_i u u' hu hu'
    obtain ⟨e1, _⟩ := ev_sound henv hH hu
    obtain ⟨e2, _⟩ := ev_sound henv hH hu'
    obtain ⟨r1, r2⟩ := bin_sound (P := P) (w := w) (n := n) (s := s) (t := t) (x := x) (y := y) h
    refine ⟨?_, r2⟩
    rw [ho]
    simp only [e1, e2]
    rw [Sem.run_bind, r1]
    rfl
  · rename_i op t x ho
    split at h <;> try (cases h; done)
    rename_i u hu
    obtain ⟨e1, _⟩ := ev_sound henv hH hu
    obtain ⟨r1, r2⟩ := un_sound (P := P) (w := w) (n := n) (s := s) h
    refine ⟨?_, r2⟩
    rw [ho]
    simp only [e1]
    rw [Sem.run_bind, r1]
    rfl
  · rename_i t x ho
    split at h <;> try (cases h; done)
    rename_i u hu
    obtain ⟨e1, e2⟩ := ev_sound henv hH hu
    obtain ⟨r1, r2⟩ := ldv_sound hT hh e2 h
    refine ⟨?_, r2⟩
    rw [ho]
    simp only [e1]
    rw [Sem.run_bind, r1]
    rfl
  · rename_i t x f ho
    split at h <;> try (cases h; done)
    rename_i u hu
    obtain ⟨e1, e2⟩ := ev_sound henv hH hu
    obtain ⟨r1, r2⟩ := fld_sound hT hh e2 h
    refine ⟨?_, r2⟩
    rw [ho]
    simp only [e1]
    rw [Sem.run_bind, r1]
    rfl
  · rename_i t x f ho
    split at h <;> try (cases h; done)
    rename_i u hu
    obtain ⟨e1, e2⟩ := ev_sound henv hH hu
    obtain ⟨r1, r2⟩ := fldV_sound (w := w) hT e2 h
    refine ⟨?_, r2⟩
    rw [ho]
    simp only [e1]
    rw [Sem.run_bind, r1]
    rfl
  · rename_i t x ix ho
    split at h <;> try (cases h; done)
    rename_i cs k i hu hi
    obtain ⟨e1, e2⟩ := ev_sound henv hH hu
    obtain ⟨e3, _⟩ := ev_sound henv hH hi
    obtain ⟨r1, r2⟩ := idxV_sound (w := w) (n := n) (k := k) hT e2 h
    refine ⟨?_, r2⟩
    rw [ho]
    simp only [e1, e3, AV.c, AC.c]
    simp only [AV.c] at r1
    rw [Sem.run_bind, r1]
    rfl
  · rename_i x i ho
    split at h <;> try (cases h; done)
    rename_i vs hu
    obtain ⟨e1, e2⟩ := ev_sound henv hH hu
    obtain ⟨r1, r2⟩ := ext_sound (n := n) e2 h
    refine ⟨?_, r2⟩
    rw [ho]
    have : (vs.map (part1 n)).toArray[i]? = some (v.c n) := by simpa using r1
    have hx : Instr.extract ((AV.t vs).c n) i = pure (v.c n) := by
      show Instr.extract (.tuple (vs.map (part1 n)).toArray) i = _
      simp only [Instr.extract]
      rw [this]
    simp only [e1, hx]
    rfl
  · rename_i t ps ho
    split at h <;> try (cases h; done)
    rename_i vs hu
    obtain ⟨e1, e2, e3⟩ := evs_sound henv hH hu
    obtain ⟨r1, r2⟩ := bld_sound (w := w) hT hh.one e2 e3 h
    refine ⟨?_, r2⟩
    rw [ho]
    have : (ps.map fun x => (x.1, a.eval x.2)) = (vs.map fun x => (x.1, x.2.c n)).toArray := by
      apply Array.ext'
      simpa using e1
    simp only
    rw [this, Sem.run_bind, r1]
    rfl
  · rename_i c ho
    split at h <;> try (cases h; done)
    rename_i b hb
    split at h <;> try (cases h; done)
    rename_i vs hvs
    obtain ⟨e1, e2⟩ := evl_sound henv hH hvs
    have r1 := fun cs => (blt_sound hT hh h o.type cs).1
    refine ⟨?_, (blt_sound hT hh h o.type #[]).2⟩
    rw [ho]
    have : c.args.map a.eval = (vs.map (AV.c n)).toArray := by
      apply Array.ext'
      simpa using e1
    simp only [resolve, hb, this, Sem.run_bind, Sem.run_pure, Result.andThen_ok, invoke]
    simpa using r1 _
  cases h
end
def mentions (T : List (Nat × Bool)) (d : Nat) : Bool := T.any fun x => Nat.beq x.1 d
def prune : List (Nat × List (Nat × Bool) × AV) → Nat → List (Nat × List (Nat × Bool) × AV)
 | [], _ => []
 | x :: r, d => bif Nat.beq x.1 d || mentions x.2.1 d then prune r d else x :: prune r d
def AS.put (s : AS) (d : Option Tmp) (T : List (Nat × Bool)) (v : AV) : Option AS :=
 match d with
 | none => some s
 | some d => bif Nat.ble (d + 1) s.nt && !(mentions T d) then some { s with env := (d, T, v) :: prune s.env d } else none
def gTag (s : AS) (ops : Array Oper) (o : Oper) : Option (List (Nat × Bool)) :=
 match o.guard with
 | none => some []
 | some (j, b) => match (ops[j]?).bind (·.dst) with
  | some t => match look s.env t with
   | some (tg, .s (.bool _)) => some ((t, b) :: tg)
   | _ => none
  | none => none
def rep : List (Nat × HE) → Nat → HE → List (Nat × HE)
 | [], _, _ => []
 | x :: r, id, e => bif Nat.beq x.1 id then (x.1, e) :: r else x :: rep r id e
def ones : List AC → Bool
 | [] => true
 | c :: r => c.one && ones r
def oph (tt : TT) (s : AS) (o : Oper) : Option AS :=
 match o.op with
 | .alloc t => match tyL tt t with
  | some i => (s.add (.box t (avOf i.zero).cells)).put o.dst [] (.s (.p s.nx 0))
  | none => none
 | .box t x => match ev s [] x with
  | some v => bif v.good then (s.add (.box t v.cells)).put o.dst [] (.s (.p s.nx 0)) else none
  | none => none
 | .makeFunc (.func f) first caps => match evl s [] first.toList, evl s [] caps.toList with
  | some u, some v => (s.add (.clo f u v)).put o.dst [] (.s (.ref s.nx))
  | _, _ => none
 | .store t x v => match o.dst, ev s [] x, ev s [] v, tyL tt t with
  | none, some (.s (.p id off)), some v, some i => match fnd s.hp id with
   | some (.box ty cs) => bif v.good && ones v.cells && Nat.beq v.cells.length i.size && Nat.ble (off + i.size) cs.length then some { s with hp := rep s.hp id (.box ty (spl cs off v.cells)) } else none
   | _ => none
  | _, _, _, _ => none
 | _ => none
def st1 (tt : TT) (ops : Array Oper) (o : Oper) (s : AS) : Option AS :=
 match gTag s ops o with
 | none => none
 | some T => match opv tt s T o.op with
  | some v => s.put o.dst T v
  | none => match T with
   | [] => match o.guard with
    | none => oph tt s o
    | _ => none
   | _ => none
def sts (tt : TT) (ops : Array Oper) : List Oper → AS → Option AS
 | [], s => some s
 | o :: r, s => match st1 tt ops o s with
  | some s' => sts tt ops r s'
  | none => none
section
variable {P : Program} {tt : TT} {cx : Cx} {n : Vn} {s : AS} {a : Act} {w : World} {T : List (Nat × Bool)}
theorem getD_put_ne {a : Act} {d t : Nat} {v : Value} (h : t ≠ d) : (a.put (some d) v).tmps.getD t undef = a.tmps.getD t undef := by
 simp only [Act.put, Array.getD_eq_getD_getElem?, Array.getElem?_setIfInBounds]
 rw [if_neg (fun e => h e.symm)]
theorem getD_put_eq {a : Act} {d : Nat} {v : Value} (h : d < a.tmps.size) : (a.put (some d) v).tmps.getD d undef = v := by
 simp [Act.put, Array.getD_eq_getD_getElem?, Array.getElem?_setIfInBounds, h]
theorem mentions_false {T : List (Nat × Bool)} {d : Nat} (h : mentions T d = false) : ∀ x ∈ T, x.1 ≠ d := fun x hx e => by
 have := List.any_eq_false.1 h x hx
 rw [e] at this
 exact this (Nat.beq_refl d)
theorem holds_put {a : Act} {d : Nat} {v : Value} {T : List (Nat × Bool)} (h : mentions T d = false) : Holds (a.put (some d) v) T ↔ Holds a T := by
 constructor <;> intro hH x hx
 ·rw [← getD_put_ne (v := v) (mentions_false h x hx)]; exact hH x hx
 rw [getD_put_ne (mentions_false h x hx)]; exact hH x hx
theorem prune_mem {l : List (Nat × List (Nat × Bool) × AV)} {d : Nat} {x : Nat × List (Nat × Bool) × AV} (h : x ∈ prune l d) : x ∈ l ∧ x.1 ≠ d ∧ mentions x.2.1 d = false := by
 induction l with
 | nil => cases h
 | cons y r ih =>
  simp only [prune] at h
  rcases hb : (Nat.beq y.1 d || mentions y.2.1 d) with _ | _
  ·rw [hb] at h
   rcases List.mem_cons.1 h with rfl | h
   ·simp only [Bool.or_eq_false_iff] at hb
    refine ⟨List.mem_cons_self, fun e => ?_, hb.2⟩
    rw [e, Nat.beq_refl] at hb; cases hb.1
   obtain ⟨h1, h2⟩ := ih h
   exact ⟨List.mem_cons_of_mem _ h1, h2⟩
  rw [hb] at h
  obtain ⟨h1, h2⟩ := ih h
  exact ⟨List.mem_cons_of_mem _ h1, h2⟩
theorem AV.ok_same {s s' : AS} {v : AV} (h : v.ok s) (h1 : s'.nx = s.nx) (h2 : s'.hp = s.hp) : v.ok s' :=
 AV.ok_more h ⟨by rw [h1]; exact Nat.le_refl _, fun id _ e he => ⟨e, by rw [← h2]; exact he, Nat.le_refl _⟩⟩
theorem HE.ok_same {s s' : AS} {v : HE} (h : v.ok s) (h1 : s'.nx = s.nx) (h2 : s'.hp = s.hp) : v.ok s' :=
 HE.ok_more h ⟨by rw [h1]; exact Nat.le_refl _, fun id _ e he => ⟨e, by rw [← h2]; exact he, Nat.le_refl _⟩⟩
theorem HSat.env {l : List (Nat × List (Nat × Bool) × AV)} (h : HSat cx n s w) : HSat cx n { s with env := l } w :=
 ⟨h.fr, h.ini, h.inx, h.one, h.ents, fun x hx => HE.ok_same (h.oks x hx) rfl rfl, h.sep, h.lt, h.ids⟩
theorem EntOk.same {s s' : AS} {x : Nat × List (Nat × Bool) × AV} (h : EntOk n s a x) (h0 : s'.nt = s.nt) (h1 : s'.nx = s.nx) (h2 : s'.hp = s.hp) : EntOk n s' a x :=
 ⟨by rw [h0]; exact h.lt, fun hH => ⟨(h.yes hH).1, AV.ok_same (h.yes hH).2 h1 h2⟩, h.no⟩
theorem put_sat (hs : Sat cx n s a w) {d : Option Tmp} {v : AV} {s' : AS} {x : Value} (h : s.put d T v = some s') (hy : Holds a T → x = v.c n ∧ v.ok s) (hn : ¬ Holds a T → x = undef) : Sat cx n s' (a.put d x) w := by
 cases d with
 | none => simp only [AS.put] at h; cases h; exact hs
 | some d =>
  simp only [AS.put] at h
  rcases hb : (Nat.ble (d + 1) s.nt && !(mentions T d)) with _ | _
  ·rw [hb] at h; cases h
  rw [hb] at h; cases h
  simp only [Bool.and_eq_true, Bool.not_eq_true'] at hb
  have hd := Nat.le_of_ble_eq_true hb.1
  refine ⟨hs.heap.env, by simp [Act.put, hs.size], fun y hy' => ?_, hs.defers⟩
  rcases List.mem_cons.1 hy' with rfl | hy'
  ·refine ⟨hd, fun hH => ?_, fun hH => ?_⟩
   ·rw [getD_put_eq (by rw [hs.size]; exact hd)]
    have := hy ((holds_put hb.2).1 hH)
    exact ⟨this.1, AV.ok_same this.2 rfl rfl⟩
   rw [getD_put_eq (by rw [hs.size]; exact hd)]
   exact hn fun h => hH ((holds_put hb.2).2 h)
  obtain ⟨h1, h2, h3⟩ := prune_mem hy'
  have he := (hs.env y h1).same (s' := { s with env := (d, T, v) :: prune s.env d }) rfl rfl rfl
  refine ⟨he.lt, fun hH => ?_, fun hH => ?_⟩
  ·rw [getD_put_ne h2]; exact he.yes ((holds_put h3).1 hH)
  rw [getD_put_ne h2]; exact he.no fun h => hH ((holds_put h3).2 h)
theorem gTag_sound (hs : Sat cx n s a w) {ops : Array Oper} {o : Oper} (h : gTag s ops o = some T) : Region.wanted o (yielded ops a.tmps) = true ↔ Holds a T := by
 unfold gTag at h
 unfold Region.wanted
 split at h
 ·rename_i hg
  cases h
  simp [hg, Holds]
 rename_i j b hg
 split at h
 ·rename_i t ht
  split at h
  ·rename_i tg g hl
   cases h
   have he := hs.env _ (look_mem hl)
   have hlt : t < a.tmps.size := by rw [hs.size]; exact he.lt
   have hy : yielded ops a.tmps j = match a.tmps.getD t undef with | .bool b => some b | _ => none := by
    unfold yielded
    rw [ht]
    simp [Array.getD_eq_getD_getElem?, hlt]
    cases a.tmps[t] <;> rfl
   simp only [hg]
   rw [hy]
   by_cases hH : Holds a tg
   ·have hv := (he.yes hH).1
    simp only [AV.c, AC.c] at hv
    rw [hv]
    simp only [beq_iff_eq, Option.some.injEq]
    constructor
    ·intro e
     exact holds_cons hH (by rw [hv, e])
    intro h
    have := h (t, b) List.mem_cons_self
    rw [hv] at this
    cases this; rfl
   have hv := he.no hH
   simp only at hv
   rw [hv]
   constructor
   ·intro e; cases e
   intro h
   exact absurd (fun x hx => h x (List.mem_cons_of_mem _ hx)) hH
  cases h
 cases h
theorem env_add (hs : Sat cx n s a w) {n' : Vn} {e : HE} {w' : World} (hag : ∀ id, id < s.nx → n' id = n id) (hh : HSat cx n' (s.add e) w') : Sat cx n' (s.add e) a w' := by
 refine ⟨hh, hs.size, fun x hx => ?_, hs.defers⟩
 have he := hs.env x hx
 refine ⟨he.lt, fun hH => ?_, he.no⟩
 obtain ⟨h1, h2⟩ := he.yes hH
 exact ⟨by rw [h1, AV.c_congr h2 hag], AV.ok_more h2 (More.add s e)⟩
theorem newbox (hs : Sat cx n s a w) (t : TypeId) (cs : List AC) (hc : cellsOk s cs) :
  Sat cx (upd n s.nx (.pointer (some ⟨w.heap.size, 0, none⟩))) (s.add (.box t cs)) a (w.alloc (.cells (cellsV n cs) t)) := by
 refine env_add hs (upd_lt _ _ _) (hs.heap.add ((Below.refl _ _).alloc (Nat.le_refl _) _) rfl ⟨w.heap.size, rfl, hs.heap.fr.news _ hs.heap.fr.size, ?_⟩ hc (fun g hg => ?_) (fun g hg => ?_))
 ·rw [heap_alloc_new, cellsV_congr hc (upd_lt _ _ _)]
 ·simp only [HE.foot, vblk] at hg; cases hg; simp
 simp only [HE.foot, vblk] at hg; cases hg; exact .inl (Nat.le_refl _)
theorem rep_mem {l : List (Nat × HE)} {id : Nat} {e : HE} {x : Nat × HE} (h : x ∈ rep l id e) : x ∈ l ∨ x = (id, e) := by
 induction l with
 | nil => cases h
 | cons y r ih =>
  simp only [rep] at h
  rcases hb : Nat.beq y.1 id with _ | _
  ·rw [hb] at h
   rcases List.mem_cons.1 h with rfl | h
   ·exact .inl List.mem_cons_self
   rcases ih h with h | h
   ·exact .inl (List.mem_cons_of_mem _ h)
   exact .inr h
  rw [hb] at h
  have := Nat.eq_of_beq_eq_true hb
  rcases List.mem_cons.1 h with rfl | h
  ·exact .inr (by rw [this])
  exact .inl (List.mem_cons_of_mem _ h)
theorem fnd_rep_ne {l : List (Nat × HE)} {id id' : Nat} {e : HE} (h : id' ≠ id) : fnd (rep l id e) id' = fnd l id' := by
 induction l with
 | nil => rfl
 | cons y r ih =>
  simp only [rep]
  rcases hb : Nat.beq y.1 id with _ | _
  ·simp only [cond_false, fnd, ih]
  have := Nat.eq_of_beq_eq_true hb
  simp only [cond_true, fnd]
  have h1 : Nat.beq y.1 id' = false := by
   rcases h2 : Nat.beq y.1 id' with _ | _
   ·rfl
   have := Nat.eq_of_beq_eq_true h2; omega
  rw [h1]
  rfl
theorem fnd_rep_eq {l : List (Nat × HE)} {id : Nat} {e e0 : HE} (h : fnd l id = some e0) : fnd (rep l id e) id = some e := by
 induction l with
 | nil => cases h
 | cons y r ih =>
  simp only [rep]
  rcases hb : Nat.beq y.1 id with _ | _
  ·simp only [fnd, hb, cond_false] at h ⊢
   exact ih h
  simp only [cond_true, fnd, hb]
theorem rep_shape {l : List (Nat × HE)} {id : Nat} {e e0 : HE} (n : Vn) (h : fnd l id = some e0) (hm : e.mut = e0.mut) (hf : ∀ x, e.foot x = e0.foot x) :
  (rep l id e).map (fun x => (x.2.mut, x.2.foot (n x.1))) = l.map (fun x => (x.2.mut, x.2.foot (n x.1))) ∧ (rep l id e).map (·.1) = l.map (·.1) := by
 induction l with
 | nil => exact ⟨rfl, rfl⟩
 | cons y r ih =>
  simp only [rep]
  rcases hb : Nat.beq y.1 id with _ | _
  ·simp only [fnd, hb, cond_false] at h
   simp [(ih h).1, (ih h).2]
  simp only [fnd, hb, cond_true] at h
  cases h
  simp [hm, hf]
theorem store_list {l : List (Nat × HE)} {id g : Nat} {e0 e : HE} {w w' : World} (h : fnd l id = some e0) (he0 : e0.foot (n id) g) (hm : e0.mut = true)
  (hsat : ∀ x ∈ l, x.2.sat n cx.ok w (n x.1)) (hsep : l.Pairwise fun x y => (x.2.mut = true ∨ y.2.mut = true) → ∀ g, x.2.foot (n x.1) g → ¬ y.2.foot (n y.1) g)
  (hw : ∀ k, k ≠ g → w'.heap[k]? = w.heap[k]?) (hnew : e.sat n cx.ok w' (n id)) : ∀ x ∈ rep l id e, x.2.sat n cx.ok w' (n x.1) := by
 induction l with
 | nil => intro x hx; cases hx
 | cons y r ih =>
  obtain ⟨hy, hr⟩ := List.pairwise_cons.1 hsep
  intro x hx
  simp only [rep] at hx
  rcases hb : Nat.beq y.1 id with _ | _
  ·rw [hb] at hx
   simp only [fnd, hb, cond_false] at h
   rcases List.mem_cons.1 hx with rfl | hx
   ·refine HE.sat_move (hsat _ List.mem_cons_self) fun k hk => hw k fun e => ?_
    subst e
    exact hy _ (fnd_mem h) (.inr hm) _ hk he0
   exact ih h (fun x hx => hsat x (List.mem_cons_of_mem _ hx)) hr x hx
  rw [hb] at hx
  simp only [fnd, hb, cond_true] at h
  have hid := Nat.eq_of_beq_eq_true hb
  cases h
  rcases List.mem_cons.1 hx with rfl | hx
  ·rw [hid]; exact hnew
  refine HE.sat_move (hsat _ (List.mem_cons_of_mem _ hx)) fun k hk => hw k fun e => ?_
  subst e
  exact hy x hx (.inl hm) _ (by rw [hid]; exact he0) hk
theorem setRow_size (w : World) (g : Nat) (cs : Array Value) : (w.setRow g cs).heap.size = w.heap.size := by simp [World.setRow]
theorem HSat.write {w' : World} (h : HSat cx n s w) {id g : Nat} {e0 e : HE} (hf : fnd s.hp id = some e0) (hm : e0.mut = true) (hfoot : e0.foot (n id) g) (hm' : e.mut = e0.mut) (hfe : ∀ x, e.foot x = e0.foot x) (hlen : e0.len ≤ e.len)
  (hok : cx.ok g) (hw : ∀ k, k ≠ g → w'.heap[k]? = w.heap[k]?) (hz : w'.heap.size = w.heap.size) (h1 : w'.os = w.os) (h2 : w'.tape = w.tape) (h3 : w'.output = w.output)
  (hnew : e.sat n cx.ok w' (n id)) (hke : e.ok s) : HSat cx n { s with hp := rep s.hp id e } w' := by
 have hsh := rep_shape n hf hm' hfe
 have hmore : More s { s with hp := rep s.hp id e } := ⟨Nat.le_refl _, fun i _ e' he' => by
  by_cases hi : i = id
  ·subst hi
   have : fnd (rep s.hp i e) i = some e := fnd_rep_eq hf
   rw [this] at he'
   cases he'
   exact ⟨e0, hf, hlen⟩
  exact ⟨e', by rw [← fnd_rep_ne (e := e) hi]; exact he', Nat.le_refl _⟩⟩
 refine ⟨⟨h1.trans h.fr.os, h2.trans h.fr.tape, h3.trans h.fr.output, by rw [hz]; exact h.fr.size, fun k hk hn => (hw k fun e => hn (e ▸ hok)).trans (h.fr.block k hk hn), h.fr.news⟩, h.ini, h.inx, h.one,
  store_list hf hfoot hm h.ents h.sep hw hnew, fun x hx => ?_, ?_, fun x hx g' hg' => ?_, fun x hx => ?_⟩
 ·rcases rep_mem hx with hx | rfl
  ·exact HE.ok_more (h.oks x hx) hmore
  exact HE.ok_more hke hmore
 ·have hs := h.sep
  have : ∀ l : List (Nat × HE), (l.Pairwise fun x y => (x.2.mut = true ∨ y.2.mut = true) → ∀ g, x.2.foot (n x.1) g → ¬ y.2.foot (n y.1) g) ↔
    ((l.map fun x => (x.2.mut, x.2.foot (n x.1))).Pairwise fun x y => (x.1 = true ∨ y.1 = true) → ∀ g, x.2 g → ¬ y.2 g) := fun l => by rw [List.pairwise_map]
  rw [this] at hs ⊢
  simp only
  rw [hsh.1]
  exact hs
 ·rw [hz]
  rcases rep_mem hx with hx | rfl
  ·exact h.lt x hx g' hg'
  simp only at hg'
  rw [hfe] at hg'
  exact h.lt _ (fnd_mem hf) g' hg'
 rcases rep_mem hx with hx | rfl
 ·exact h.ids x hx
 exact h.ids (id, e0) (fnd_mem hf)
theorem env_hp (hs : Sat cx n s a w) {hp' : List (Nat × HE)} {w' : World} (hm : More s { s with hp := hp' }) (hh : HSat cx n { s with hp := hp' } w') : Sat cx n { s with hp := hp' } a w' := by
 refine ⟨hh, hs.size, fun x hx => ?_, hs.defers⟩
 have he := hs.env x hx
 refine ⟨he.lt, fun hH => ?_, he.no⟩
 obtain ⟨h1, h2⟩ := he.yes hH
 exact ⟨h1, AV.ok_more h2 hm⟩
theorem ones_spec (one : ∀ id, (n id).oneCell' = true) {cs : List AC} (h : ones cs = true) : ∀ v ∈ cs.map (AC.c n), v.oneCell' = true := by
 induction cs with
 | nil => intro v hv; cases hv
 | cons c r ih =>
  simp only [ones, Bool.and_eq_true] at h
  intro v hv
  rcases List.mem_cons.1 hv with rfl | hv
  ·exact one_c one h.1
  exact ih h.2 v hv
theorem wp_value {ops : Array Oper} {rest : List Oper} {o : Oper} {a : Act} {w w' : World} {v : Value} {Q : Exit → Act → World → Prop} (hw : Region.wanted o (yielded ops a.tmps) = true) (hr : (execOp a.eval o).run P w = .ok (.value v) w')
  (h : wpList P ops Q rest (a.put o.dst v) w') : wpList P ops Q (o :: rest) a w := by
 unfold wpList
 rw [if_pos hw]
 left
 unfold Oper.wp
 rw [hr]
 exact h
theorem wp_skip1 {ops : Array Oper} {rest : List Oper} {o : Oper} {a : Act} {w w' : World} {Q : Exit → Act → World → Prop} (hw : Region.wanted o (yielded ops a.tmps) = true) (hr : (execOp a.eval o).run P w = .ok .skip w')
  (h : wpList P ops Q rest (a.put o.dst undef) w') : wpList P ops Q (o :: rest) a w := by
 unfold wpList
 rw [if_pos hw]
 left
 unfold Oper.wp
 rw [hr]
 exact h
theorem wp_pass {ops : Array Oper} {rest : List Oper} {o : Oper} {a : Act} {w : World} {Q : Exit → Act → World → Prop} (hw : ¬ Region.wanted o (yielded ops a.tmps) = true)
  (h : wpList P ops Q rest (a.put o.dst undef) w) : wpList P ops Q (o :: rest) a w := by
 unfold wpList
 rw [if_neg hw]
 exact h
theorem wanted_none {ops : Array Oper} {o : Oper} {f : Nat → Option Bool} (h : o.guard = none) : Region.wanted o f = true := by simp [Region.wanted, h]
theorem oph_sound (hT : TTok P tt) (hs : Sat cx n s a w) {ops : Array Oper} {o : Oper} {s' : AS} (hg : o.guard = none) (h : oph tt s o = some s') {rest : List Oper} {Q : Exit → Act → World → Prop}
  (hK : ∀ n' a' w', Sat cx n' s' a' w' → wpList P ops Q rest a' w') : wpList P ops Q (o :: rest) a w := by
 have hw : Region.wanted o (yielded ops a.tmps) = true := by simp [Region.wanted, hg]
 have hH : Holds a [] := fun x hx => by cases hx
 unfold oph at h
 split at h
 ·rename_i t ho
  split at h
  ·rename_i i hi
   obtain ⟨F⟩ := hT.get hi
   have hc : cellsOk s (avOf i.zero).cells := cells_ok (avOf_ok s _)
   refine wp_value hw (v := .pointer (some ⟨w.heap.size, 0, none⟩)) (w' := w.alloc (.cells (cellsV n (avOf i.zero).cells) t)) ?_ (hK _ _ _ (put_sat (newbox hs t _ hc) h (fun _ => ⟨?_, Nat.lt_succ_self _⟩) (fun hn => absurd (fun x hx => by cases hx) hn)))
   ·unfold execOp
    rw [ho]
    simp only [Instr.alloc, Sem.run_bind, run_zero' F, Result.andThen_ok, newVar, newRow, run_newObj, Sem.run_pure, World.alloc_eq, zero_cells n]
   simp only [AV.c, AC.c, upd_same, ptrAt]
  cases h
 ·rename_i t x ho
  split at h
  ·rename_i v hv
   rcases hb : v.good with _ | _
   ·rw [hb] at h; cases h
   rw [hb] at h
   obtain ⟨e1, e2⟩ := ev_sound hs.env hH hv
   have hc : cellsOk s v.cells := cells_ok e2
   refine wp_value hw (v := .pointer (some ⟨w.heap.size, 0, none⟩)) (w' := w.alloc (.cells (cellsV n v.cells) t)) ?_ (hK _ _ _ (put_sat (newbox hs t _ hc) h (fun _ => ⟨?_, Nat.lt_succ_self _⟩) (fun hn => absurd (fun x hx => by cases hx) hn)))
   ·unfold execOp
    rw [ho]
    have hce : (v.c n).cells = cellsV n v.cells := cells_c hs.heap.one hb
    simp only [Instr.box, Sem.run_bind, e1, Result.andThen_ok, newVar, newRow, run_newObj, Sem.run_pure, World.alloc_eq, hce]
   simp only [AV.c, AC.c, upd_same, ptrAt]
  cases h
 ·rename_i f first caps ho
  split at h
  ·rename_i u v hu hv
   obtain ⟨e1, e2⟩ := evl_sound hs.env hH hu
   obtain ⟨e3, e4⟩ := evl_sound hs.env hH hv
   have hcl : HE.ok s (.clo f u v) := ⟨e2, e4⟩
   have hst : Sat cx (upd n s.nx (.func (.func f) (u.map (AV.c n)).toArray (v.map (AV.c n)).toArray)) (s.add (.clo f u v)) a w := by
    refine env_add hs (upd_lt _ _ _) (hs.heap.add (Below.refl _ _) rfl ?_ hcl (fun g hg => hg.elim) (fun g hg => hg.elim))
    simp only [HE.sat]
    rw [List.map_congr_left fun x hx => AV.c_congr (e2 x hx) (upd_lt _ _ _), List.map_congr_left fun x hx => AV.c_congr (e4 x hx) (upd_lt _ _ _)]
   refine wp_value hw (v := .func (.func f) (u.map (AV.c n)).toArray (v.map (AV.c n)).toArray) (w' := w) ?_ (hK _ _ _ (put_sat hst h (fun _ => ⟨?_, Nat.lt_succ_self _⟩) (fun hn => absurd (fun x hx => by cases hx) hn)))
   ·unfold execOp
    rw [ho]
    have h1 : first.map a.eval = (u.map (AV.c n)).toArray := by apply Array.ext'; simpa using e1
    have h2 : caps.map a.eval = (v.map (AV.c n)).toArray := by apply Array.ext'; simpa using e3
    simp only [Instr.makeFunc, Sem.run_bind, Sem.run_pure, Result.andThen_ok, h1, h2]
   simp only [AV.c, AC.c, upd_same]
  cases h
 ·rename_i t x y ho
  split at h
  ·rename_i id off v i hdst hx hv hi
   split at h
   ·rename_i ty cs hf
    rcases hb : (v.good && ones v.cells && Nat.beq v.cells.length i.size && Nat.ble (off + i.size) cs.length) with _ | _
    ·rw [hb] at h; cases h
    rw [hb] at h; cases h
    simp only [Bool.and_eq_true] at hb
    obtain ⟨⟨⟨hb1, hb2⟩, hb3⟩, hb4⟩ := hb
    have h3 := Nat.eq_of_beq_eq_true hb3
    have h4 := Nat.le_of_ble_eq_true hb4
    obtain ⟨F⟩ := hT.get hi
    obtain ⟨e1, e2⟩ := ev_sound hs.env hH hx
    obtain ⟨e3, e4⟩ := ev_sound hs.env hH hv
    obtain ⟨g, hg, hok, hheap⟩ := hs.heap.ents _ (fnd_mem hf)
    have hcs := hs.heap.oks _ (fnd_mem hf)
    have hce : (v.c n).cells = cellsV n v.cells := cells_c hs.heap.one hb1
    have hcells : cellsV n (spl cs off v.cells) = ((cellsV n cs).toList.take (off + 0) ++ (v.cells.map (AC.c n)) ++ (cellsV n cs).toList.drop (off + 0 + (v.cells.map (AC.c n)).length)).toArray := by
     unfold cellsV
     rw [spl_map, if_pos (by omega)]
     simp
    have hrun := run_storeCells_at P g off ty (v.cells.map (AC.c n)) 0 (cellsV n cs) w hheap (by simp [cellsV]; omega) (ones_spec hs.heap.one hb2)
    rw [← hcells] at hrun
    have hok' : HE.ok s (.box ty (spl cs off v.cells)) := spl_ok hcs (cells_ok e4) off
    have hwr := hs.heap.write (w' := w.setRow g (cellsV n (spl cs off v.cells))) hf rfl (g := g) (by simp only [HE.foot, hg, vblk]) (e := .box ty (spl cs off v.cells)) rfl (fun _ => rfl) (Nat.le_refl _) hok
     (fun k hk => setRow_other w g k _ hk) (setRow_size _ _ _) rfl rfl rfl ⟨g, hg, hok, setRow_heap w g _ _ ty _ hheap⟩ hok'
    have hst : Sat cx n { s with hp := rep s.hp id (.box ty (spl cs off v.cells)) } a (w.setRow g (cellsV n (spl cs off v.cells))) := by
     refine env_hp hs ⟨Nat.le_refl _, fun i' _ e' he' => ?_⟩ hwr
     by_cases hid : i' = id
     ·subst hid
      have : fnd (rep s.hp i' (.box ty (spl cs off v.cells))) i' = some _ := fnd_rep_eq hf
      rw [this] at he'
      cases he'
      exact ⟨_, hf, Nat.le_refl _⟩
     exact ⟨e', by rw [← fnd_rep_ne (e := .box ty (spl cs off v.cells)) hid]; exact he', Nat.le_refl _⟩
    refine wp_skip1 hw (w' := w.setRow g (cellsV n (spl cs off v.cells))) ?_ (hK _ _ _ (by rw [hdst]; exact hst))
    unfold execOp
    rw [ho]
    have e1' : a.eval x = .pointer (some ⟨g, off, none⟩) := by rw [e1]; simp only [AV.c, AC.c, hg, ptrAt]
    simp only [Instr.storeAt, e1', e3, Instr.sureAddr, Sem.run_bind, Sem.run_pure, Result.andThen_ok, storeVar, run_sizeOf' F, hce]
    rw [if_neg (by simp [cellsV, h3])]
    have : (cellsV n v.cells).toList = v.cells.map (AC.c n) := by simp [cellsV]
    rw [this, hrun]
    rfl
   cases h
  cases h
 cases h
theorem st1_sound (hT : TTok P tt) (hs : Sat cx n s a w) {ops : Array Oper} {o : Oper} {s' : AS} (h : st1 tt ops o s = some s') {rest : List Oper} {Q : Exit → Act → World → Prop}
  (hK : ∀ n' a' w', Sat cx n' s' a' w' → wpList P ops Q rest a' w') : wpList P ops Q (o :: rest) a w := by
 unfold st1 at h
 split at h
 ·cases h
 rename_i T hT'
 have hgt := gTag_sound hs hT'
 split at h
 ·rename_i v hv
  by_cases hH : Holds a T
  ·obtain ⟨r1, r2⟩ := opv_sound hT hs.env hH hs.heap hv
   exact wp_value (hgt.2 hH) r1 (hK _ _ _ (put_sat hs h (fun _ => ⟨rfl, r2⟩) (fun hn => absurd hH hn)))
  exact wp_pass (fun hw => hH (hgt.1 hw)) (hK _ _ _ (put_sat hs h (fun hH' => absurd hH' hH) (fun _ => rfl)))
 split at h
 ·split at h
  ·rename_i hg
   exact oph_sound hT hs hg h hK
  cases h
 cases h
theorem sts_sound (hT : TTok P tt) {ops : Array Oper} {l rest : List Oper} {s' : AS} (hs : Sat cx n s a w) (h : sts tt ops l s = some s') {Q : Exit → Act → World → Prop}
  (hK : ∀ n' a' w', Sat cx n' s' a' w' → wpList P ops Q rest a' w') : wpList P ops Q (l ++ rest) a w := by
 induction l generalizing s n a w with
 | nil => cases h; exact hK _ _ _ hs
 | cons o r ih =>
  simp only [sts] at h
  split at h
  ·rename_i s1 h1
   exact st1_sound hT hs h1 fun n' a' w' hs' => ih hs' h
  cases h
end
def Post (cx : Cx) (Q : Exit → AS → Prop) : Exit → Act → World → Prop := fun e a w => ∃ n s, Q e s ∧ Sat cx n s a w
def Fn (r : Option Nat) : Fence := { Fence.wide with round := r }
def noDefer (ops : Array Oper) : Bool := go ops.toList
where go : List Oper → Bool
 | [] => true
 | o :: r => (match o.op with | .defer _ => false | _ => true) && go r
theorem noDefer_spec {ops : Array Oper} (h : noDefer ops = true) : ∀ (i : Nat) (o : Oper), ops[i]? = some o → ∀ c, o.op ≠ .defer c := by
 have key : ∀ l : List Oper, noDefer.go l = true → ∀ o ∈ l, ∀ c, o.op ≠ .defer c := by
  intro l
  induction l with
  | nil => intro _ o ho; cases ho
  | cons x r ih =>
   intro h o ho c
   simp only [noDefer.go, Bool.and_eq_true] at h
   rcases List.mem_cons.1 ho with rfl | ho
   ·intro hc; rw [hc] at h; exact absurd h.1 (by simp)
   exact ih h.2 o ho c
 exact fun i o hi => key _ h o (Array.mem_toList_iff.2 (Array.mem_of_getElem? hi))
theorem callsIn_Fn {P : Program} {r : Option Nat} {m : Nat} {f : FuncId} {args : Array Value} {w : World} {R : Ending → World → Prop} (h : Calls P f args w R) : CallsIn (Fn r) m P f args w R :=
 (callsIn_wide.2 h : CallsIn Fence.wide m P f args w R)
theorem rowsIn_Fn {P : Program} {r : Option Nat} {m : Nat} {row : String} {args : Array Value} {w : World} {R : Value → World → Prop} (h : Rows P row args w R) : RowsIn (Fn r) m P row args w R :=
 fun c cs _ => by obtain ⟨v, w', h1, h2⟩ := h c cs; exact ⟨v, w', h1, stepsIn_wide.2 h2⟩
theorem oper_in {P : Program} {r : Option Nat} {m : Nat} {o : Oper} {a : Act} {w : World} {K : Act → World → Prop} {Q : Exit → Act → World → Prop} (hd : ∀ c, o.op ≠ .defer c) (h : o.wp P a w K Q) : o.wpIn (Fn r) m P a w K Q := by
 refine ⟨fun _ _ => trivial, ?_⟩
 rw [Oper.semAt_eq _ _ _ hd]
 unfold Oper.wp at h
 generalize (execOp a.eval o).run P w = x at *
 cases x with
 | ok n w' =>
  cases n <;> simp only [Oper.upon] at h <;> simp only [Oper.uponIn] <;>
   first
    | exact h
    | exact ⟨fun h => by simp [Fn, Fence.wide] at h, callsIn_Fn (h.mono fun e w'' he => by cases e <;> exact he)⟩
    | exact ⟨fun h => by simp [Fn, Fence.wide] at h, rowsIn_Fn h⟩
 | halt x w' => cases x <;> simp only [Oper.upon] at h <;> simp only [Oper.uponIn] <;> exact h
theorem wpOp_in {P : Program} {r : Option Nat} {m : Nat} {ops : Array Oper} {i : Nat} {a : Act} {w : World} {K K' : Act → World → Prop} {Q : Exit → Act → World → Prop} (hd : noDefer ops = true) (hl : ¬ LetsOut Q) (hk : ∀ a w, K a w → K' a w)
  (h : wpOp P ops Q i K a w) : wpOpIn (Fn r) m P ops Q i K' a w := by
 unfold wpOp at h
 unfold wpOpIn
 split
 ·rename_i ho; rw [ho] at h; exact hk _ _ h
 rename_i o ho
 rw [ho] at h
 simp only at h
 split
 ·rename_i hw
  rw [if_pos hw] at h
  exact oper_in (noDefer_spec hd i o ho) (Oper.wp_mono hk (h.resolve_right fun h => hl h.2))
 rename_i hw
 rw [if_neg hw] at h
 exact ⟨fun _ _ => trivial, hk _ _ h⟩
theorem wpOps_in {P : Program} {r : Option Nat} {m : Nat} {ops : Array Oper} {Q : Exit → Act → World → Prop} (hd : noDefer ops = true) (hl : ¬ LetsOut Q) : ∀ (l : List Nat) (a : Act) (w : World), wpOps P ops Q l a w → wpOpsIn (Fn r) m P ops Q l a w
 | [], _, _, h => h
 | i :: l, a, w, h => by
  rw [wpOpsIn_cons]
  rw [wpOps_cons] at h
  exact wpOp_in hd hl (fun a w h => wpOps_in hd hl l a w h) h
theorem wpAny_in {P : Program} {r : Option Nat} {m : Nat} {ops : Array Oper} {Q : Exit → Act → World → Prop} (hd : noDefer ops = true) (hl : ¬ LetsOut Q) : ∀ (fuel : Nat) (l : Array Bool) (a : Act) (w : World), wpAny P .any ops Q fuel l a w → wpAnyIn (Fn r) m P .any ops Q fuel l a w
 | 0, _, _, _, h => h
 | fuel + 1, l, a, w, h => ⟨h.1, fun i hi => wpOp_in hd hl (fun a w h => wpAny_in hd hl fuel _ a w h) (h.2 i hi)⟩
def WP (P : Program) (cx : Cx) (s : AS) (c : Code) (Q : Exit → AS → Prop) : Prop := ∀ (r : Option Nat) (m : Nat), (cx.top = true → r = none) → ∀ n a w, Sat cx n s a w → c.wpIn (Fn r) m P (Post cx Q) a w
def WPO (P : Program) (cx : Cx) (ops : Array Oper) (l : List Oper) (s : AS) (Q : Exit → AS → Prop) : Prop := ∀ n a w, Sat cx n s a w → wpList P ops (Post cx Q) l a w
def Nx (K : AS → Prop) (Q : Exit → AS → Prop) : Exit → AS → Prop
 | .normal, s => K s
 | e, s => Q e s
def Blk (id : Nat) (Q : Exit → AS → Prop) : Exit → AS → Prop
 | .exit i, s => if i = id then Q .normal s else Q (.exit i) s
 | e, s => Q e s
def tagP (s : AS) : List (Nat × Bool) → Prop
 | [] => True
 | (t, b) :: r => (match look s.env t with | some (_, .s (.bool g)) => g = b | _ => True) ∧ tagP s r
def goes (P : Program) (k : FuncId) : Prop := (P.funcs[k]?).map (fun f => f.name != "runtime.NumGoroutine" && f.body.isSome) = some true
section
variable {P : Program} {tt : TT} {cx : Cx} {s : AS} {Q : Exit → AS → Prop}
theorem Post.mono {Q' : Exit → AS → Prop} (h : ∀ e s, Q e s → Q' e s) : ∀ e a w, Post cx Q e a w → Post cx Q' e a w := fun e a w ⟨n, s, hq, hs⟩ => ⟨n, s, h e s hq, hs⟩
theorem WP.mono {c : Code} {Q' : Exit → AS → Prop} (h : WP P cx s c Q) (hq : ∀ e s, Q e s → Q' e s) : WP P cx s c Q' := fun r m ht n a w hs => wpIn_mono (h r m ht n a w hs) (Post.mono hq)
theorem WP_seq {x y : Code} (h : WP P cx s x (Nx (fun s' => WP P cx s' y Q) Q)) : WP P cx s (.seq x y) Q := fun r m ht n a w hs =>
 wpIn_seq (wpIn_mono (h r m ht n a w hs) fun e a w ⟨n, s, hq, hs⟩ => by
  cases e with
  | normal => exact hq r m ht n a w hs
  | _ => exact ⟨n, s, hq, hs⟩)
theorem WP_skip (h : Q .normal s) : WP P cx s .skip Q := fun r m ht n a w hs => wpIn_skip ⟨n, s, h, hs⟩
theorem WP_label {l : Nat} (h : Q .normal s) : WP P cx s (.label l) Q := fun r m ht n a w hs => wpIn_label ⟨n, s, h, hs⟩
theorem WP_ret (h : Q .ret s) : WP P cx s .ret Q := fun r m ht n a w hs => wpIn_ret ⟨n, s, h, hs⟩
theorem WP_exit {id : Nat} (h : Q (.exit id) s) : WP P cx s (.exit id) Q := fun r m ht n a w hs => wpIn_exit ⟨n, s, h, hs⟩
theorem WP_block {id : Nat} {c : Code} (h : WP P cx s c (Blk id Q)) : WP P cx s (.block id c) Q := fun r m ht n a w hs =>
 wpIn_block (wpIn_mono (h r m ht n a w hs) fun e a w ⟨n, s, hq, hs⟩ => by
  cases e with
  | exit i =>
   simp only [Exit.inBlock]
   simp only [Blk] at hq
   split
   ·rename_i h; rw [if_pos h] at hq; exact ⟨n, s, hq, hs⟩
   rename_i h; rw [if_neg h] at hq; exact ⟨n, s, hq, hs⟩
  | _ => exact ⟨n, s, hq, hs⟩)
theorem no_lets (ho : ∀ s, ¬ Q .outgrown s) : ¬ LetsOut (Post cx Q) := fun ⟨_, _, _, s, h, _⟩ => ho s h
theorem WP_region {id : Nat} {ops : Array Oper} (h : WPO P cx ops ops.toList s Q) (hd : noDefer ops = true := by kernel_rfl) (ho : ∀ s, ¬ Q .outgrown s := by first | exact fun _ h => h | assumption) : WP P cx s (.region id ops false) Q := fun r m ht n a w hs =>
 wpIn_region (wpOps_in hd (no_lets ho) _ _ _ (by rw [List.range_eq_range', ← Array.length_toList, wpOps_eq_wpList ops.toList 0 (by simp)]; exact h n a w hs))
theorem WP_cond {c : Operand} {x y : Code} (b : Bool) (hc : ev s [] c = some (.s (.bool b))) (ht1 : b = true → WP P cx s x Q) (hf : b = false → WP P cx s y Q) : WP P cx s (.cond c x y) Q := fun r m ht n a w hs =>
 wpIn_cond_split (t := b) (ev_sound hs.env (fun x hx => by cases hx) hc).1 (fun h => ht1 h r m ht n a w hs) (fun h => hf h r m ht n a w hs)
def Le (cx : Cx) (s s' : AS) : Prop := ∀ n a w, Sat cx n s a w → ∃ n', Sat cx n' s' a w
theorem WP_le {c : Code} {s' : AS} (hl : Le cx s s') (h : WP P cx s' c Q) : WP P cx s c Q := fun r m ht n a w hs => by obtain ⟨n', hs'⟩ := hl n a w hs; exact h r m ht n' a w hs'
theorem WP_loop {c : Code} {σ : Type} (I : σ → AS) (inv : σ → Prop) (μ : σ → Nat) (x0 : σ) (h0 : inv x0) (hl : Le cx s (I x0))
  (h : ∀ x, inv x → WP P cx (I x) c (Nx (fun s' => ∃ x', inv x' ∧ μ x' < μ x ∧ Le cx s' (I x')) Q)) : WP P cx s (.loop c) Q := fun r mm ht => by
 have key : ∀ m x, inv x → μ x = m → ∀ n a w, Sat cx n (I x) a w → ∀ b k cs, b.roundOf = (Fn r).round → (Fn r).fn b.fn → (Fn r).room (cs.length + 1 + mm) →
   ∃ e a' w', Post cx Q e a' w' ∧ ArrivesIn (Machine.fenced P (Fn r)) P (lone (b.atR a (.code c :: .inLoop c :: k)) cs w) b k cs e a' w' := by
  intro m
  induction m using Nat.strongRecOn with
  | _ m ih =>
   intro x hx hm n a w hs b k cs hro hb hr
   obtain ⟨e, a1, w1, ⟨n1, s1, hq, hs1⟩, harr⟩ := h x hx r mm ht n a w hs b (.inLoop c :: k) cs hro hb hr
   cases e with
   | normal =>
    obtain ⟨x', hx', hlt, hle⟩ := hq
    obtain ⟨n2, hs2⟩ := hle n1 a1 w1 hs1
    obtain ⟨e2, a2, w2, hq2, harr2⟩ := ih (μ x') (hm ▸ hlt) x' hx' rfl n2 a1 w1 hs2 b k cs hro hb hr
    exact ⟨e2, a2, w2, hq2, ArrivesIn.of_steps (StepsIn.trans harr (.one (fenced_calm hb hr rfl) stepR_inLoop)) harr2⟩
   | exit id => exact ⟨_, a1, w1, ⟨n1, s1, hq, hs1⟩, .pass (x := .inLoop c) rfl (fun _ _ => .inl (by simp)) harr⟩
   | goto l => exact ⟨_, a1, w1, ⟨n1, s1, hq, hs1⟩, .pass (x := .inLoop c) rfl (fun _ _ => .inl (by simp)) harr⟩
   | ret => exact ⟨_, a1, w1, ⟨n1, s1, hq, hs1⟩, .pass (x := .inLoop c) rfl (fun _ _ => .inl (by simp)) harr⟩
   | panic ch => exact ⟨_, a1, w1, ⟨n1, s1, hq, hs1⟩, .pass (x := .inLoop c) rfl (fun _ _ => .inl (by simp)) harr⟩
   | outgrown => exact ⟨_, a1, w1, ⟨n1, s1, hq, hs1⟩, .pass (x := .inLoop c) rfl (fun _ _ => .inl (by simp)) harr⟩
 intro n a w hs b k cs hro hb hr
 obtain ⟨n', hs'⟩ := hl n a w hs
 obtain ⟨e, a', w', hq, harr⟩ := key _ x0 h0 rfl n' a w hs' b k cs hro hb hr
 exact ⟨e, a', w', hq, ArrivesIn.of_steps (.one (fenced_calm hb hr rfl) stepR_loop) harr⟩
variable {ops : Array Oper} {rest : List Oper} {o : Oper}
theorem WPO_nil (h : Q .normal s) : WPO P cx ops [] s Q := fun n a w hs => ⟨n, s, h, hs⟩
theorem WPO_run (hT : TTok P tt) (k : Nat) {l : List Oper} (h : (sts tt ops (l.take k) s).isSome = true) (hK : WPO P cx ops (l.drop k) ((sts tt ops (l.take k) s).getD s) Q) : WPO P cx ops l s Q := fun n a w hs => by
 obtain ⟨s', h'⟩ := Option.isSome_iff_exists.1 h
 rw [h'] at hK
 have := sts_sound (rest := l.drop k) hT hs h' fun n' a' w' hs' => hK n' a' w' hs'
 rwa [List.take_append_drop] at this
theorem WPO_all (hT : TTok P tt) {l : List Oper} (h : (sts tt ops l s).isSome = true) (hK : Q .normal ((sts tt ops l s).getD s)) : WPO P cx ops l s Q := fun n a w hs => by
 obtain ⟨s', h'⟩ := Option.isSome_iff_exists.1 h
 rw [h'] at hK
 have := sts_sound (rest := []) hT hs h' fun n' a' w' hs' => WPO_nil hK n' a' w' hs'
 rwa [List.append_nil] at this
theorem tagP_of {n : Vn} {a : Act} (henv : ∀ x ∈ s.env, EntOk n s a x) {T : List (Nat × Bool)} (hH : Holds a T) : tagP s T := by
 induction T with
 | nil => trivial
 | cons x r ih =>
  obtain ⟨t, b⟩ := x
  refine ⟨?_, ih fun x hx => hH x (List.mem_cons_of_mem _ hx)⟩
  split
  ·rename_i tg g hl
   have he := henv _ (look_mem hl)
   have hv := hH (t, b) List.mem_cons_self
   simp only at hv
   by_cases hh : Holds a tg
   ·have := (he.yes hh).1
    simp only [AV.c, AC.c] at this
    rw [hv] at this
    cases this; rfl
   have := he.no hh
   simp only at this
   rw [hv] at this
   cases this
  trivial
theorem index_sound (hT : TTok P tt) {n : Vn} {a : Act} {w : World} (w1 : World) {T : List (Nat × Bool)} (henv : ∀ x ∈ s.env, EntOk n s a x) (hh : HSat cx n s w) (hH : Holds a T) {t e : TypeId} {x ix : Operand} {id : Nat} {kd : SK} {sz : Nat} {α : Type} {l : List α} {enc : α → List Value} {z : α} {k : IntKind} {i : Int}
  (ho : o.op = .indexAddr t x ix) (hx : ev s T x = some (.s (.ref id))) (hf : fnd s.hp id = some (.sl kd e sz l enc z)) (hi : ev s T ix = some (.s (.int k i)))
  (ht : (tyL tt t).map (·.d) = some (.slice e)) (hsz : (tyL tt e).map (·.size) = some sz) (h0 : 0 ≤ i ∧ i < (l.length : Int)) :
  (execOp a.eval o).run P w1 = .ok (.value (elAt (n id) (i.toNat * sz + 0))) w1 := by
 obtain ⟨tti, htt, htd⟩ := Option.map_eq_some_iff.1 ht
 obtain ⟨ei, hee, hes⟩ := Option.map_eq_some_iff.1 hsz
 obtain ⟨F⟩ := hT.get htt
 obtain ⟨G⟩ := hT.get hee
 have hd : F.desc = .slice e := by
  have := F.td
  rw [htd] at this
  cases hd : F.desc <;> rw [hd] at this <;> simp only [tdOf] at this <;> first
   | (cases this; done)
   | (injection this with h; rw [h])
 obtain ⟨A, c, hv, _, _, hA⟩ := sl_addr hh hf
 obtain ⟨ad, rfl⟩ := hA (by omega)
 obtain ⟨e1, _⟩ := ev_sound henv hH hx
 obtain ⟨e2, _⟩ := ev_sound henv hH hi
 simp only [AV.c, AC.c] at e1 e2
 unfold execOp
 rw [ho]
 simp only [Instr.indexAt, e1, e2, hv, asIntOf, Sem.run_bind, Sem.run_pure, Result.andThen_ok, run_underlying F.hdesc, hd]
 rw [if_pos h0]
 simp [run_sizeOf' G, hes, elAt]
theorem WPO_index (hT : TTok P tt) {T : List (Nat × Bool)} {t e : TypeId} {x ix : Operand} {id : Nat} {kd : SK} {sz : Nat} {α : Type} {l : List α} {enc : α → List Value} {z : α} {k : IntKind} {i : Int} {s' : AS}
  (ho : o.op = .indexAddr t x ix) (hg : gTag s ops o = some T) (hx : ev s T x = some (.s (.ref id))) (hf : fnd s.hp id = some (.sl kd e sz l enc z)) (hi : ev s T ix = some (.s (.int k i)))
  (ht : (tyL tt t).map (·.d) = some (.slice e)) (hsz : (tyL tt e).map (·.size) = some sz) (hs' : s.put o.dst T (.s (.ep id i sz 0)) = some s')
  (h0 : tagP s T → 0 ≤ i ∧ i < (l.length : Int)) (hK : WPO P cx ops rest s' Q) : WPO P cx ops (o :: rest) s Q := fun n a w hs => by
 have hgt := gTag_sound hs hg
 by_cases hH : Holds a T
 ·have hr := index_sound hT w hs.env hs.heap hH ho hx hf hi ht hsz (h0 (tagP_of hs.env hH))
  obtain ⟨_, e2⟩ := ev_sound hs.env hH hx
  refine wp_value (hgt.2 hH) hr (hK _ _ _ (put_sat hs hs' (fun _ => ⟨rfl, e2, fun h hh => ?_⟩) (fun hn => absurd hH hn)))
  rw [hf] at hh
  cases hh
  exact h0 (tagP_of hs.env hH)
 exact wp_pass (fun hw => hH (hgt.1 hw)) (hK _ _ _ (put_sat hs hs' (fun hH' => absurd hH' hH) (fun _ => rfl)))
def CallOk (P : Program) (cx : Cx) (s : AS) (k : FuncId) (vs : List AV) (r : AV) (s' : AS) : Prop :=
 ∀ n w, HSat cx n s w → Calls P k (vs.map (AV.c n)).toArray w fun e w' => ∃ n', (∀ id, id < s.nx → n' id = n id) ∧ e = .returned (r.c n') ∧ HSat cx n' s' w'
def target (s : AS) : AV → Option (FuncId × List AV × List AV)
 | .s (.v (.func (.func f) a b)) => some (f, a.toList.map (fun x => .s (.v x)), b.toList.map (fun x => .s (.v x)))
 | .s (.ref id) => match fnd s.hp id with
  | some (.clo f u v) => some (f, u, v)
  | _ => none
 | _ => none
theorem target_sound {n : Vn} {w : World} (hh : HSat cx n s w) {v : AV} {f : FuncId} {u c : List AV} (h : target s v = some (f, u, c)) : v.c n = .func (.func f) (u.map (AV.c n)).toArray (c.map (AV.c n)).toArray := by
 unfold target at h
 split at h
 ·rename_i f' x y
  cases h
  have hm : ∀ z : Array Value, ((z.toList.map fun x => AV.s (AC.v x)).map (AV.c n)).toArray = z := fun z => by
   rw [List.map_map]
   have : (AV.c n ∘ fun x => AV.s (AC.v x)) = id := rfl
   rw [this, List.map_id]
  rw [hm, hm]
  rfl
 ·split at h
  ·rename_i id f u v hf
   cases h
   exact hh.ents _ (fnd_mem hf)
  cases h
 cases h
theorem call_run {n : Vn} {a : Act} {w : World} {T : List (Nat × Bool)} (henv : ∀ x ∈ s.env, EntOk n s a x) (hh : HSat cx n s w) (hH : Holds a T) {c : Call} {x : Operand} {v : AV} {k : FuncId} {u cp vs : List AV}
  (ho : o.op = .call c) (hc : c.callee = .value x) (hx : ev s T x = some v) (ht : target s v = some (k, u, cp)) (hvs : evl s T c.args.toList = some vs) (hgo : goes P k) :
  (execOp a.eval o).run P w = .ok (.enter k ((u ++ vs ++ cp).map (AV.c n)).toArray) w := by
 obtain ⟨e1, _⟩ := ev_sound henv hH hx
 obtain ⟨e2, _⟩ := evl_sound henv hH hvs
 have ht' := target_sound hh ht
 obtain ⟨fn, hfn, hb⟩ := Option.map_eq_some_iff.1 hgo
 simp only [Bool.and_eq_true] at hb
 unfold execOp
 rw [ho]
 have h1 : c.args.map a.eval = (vs.map (AV.c n)).toArray := by apply Array.ext'; simpa using e2
 have hnone : fn.body.isNone = false := by
  cases hbo : fn.body with
  | none => rw [hbo] at hb; cases hb.2
  | some b => rfl
 have hname : (fn.name == "runtime.NumGoroutine") = false := by
  have := hb.1
  simpa [bne] using this
 simp only [resolve, hc, h1, e1, ht', Deferred.ofValue, Sem.run_bind, Sem.run_pure, Result.andThen_ok, invoke, callFunc, run_program, hfn, hname, hnone]
 simp
theorem WPO_call {T : List (Nat × Bool)} {c : Call} {x : Operand} {v : AV} {k : FuncId} {u cp vs : List AV} {r : AV} {s1 s' : AS}
  (ho : o.op = .call c) (hg : gTag s ops o = some T) (hc : c.callee = .value x) (hx : ev s T x = some v) (ht : target s v = some (k, u, cp)) (hvs : evl s T c.args.toList = some vs) (hgo : goes P k)
  (hT0 : T ≠ [] → s1 = s) (hr : r.ok s1) (hm : More s s1) (he : s1.env = s.env ∧ s1.nt = s.nt ∧ s1.df = s.df)
  (hs' : s1.put o.dst T r = some s') (hcall : tagP s T → CallOk P cx s k (u ++ vs ++ cp) r s1) (hK : WPO P cx ops rest s' Q) : WPO P cx ops (o :: rest) s Q := fun n a w hs => by
 have hgt := gTag_sound hs hg
 by_cases hH : Holds a T
 ·have hrun := call_run hs.env hs.heap hH ho hc hx ht hvs hgo
  have hca := hcall (tagP_of hs.env hH) n w hs.heap
  unfold wpList
  rw [if_pos (hgt.2 hH)]
  left
  unfold Oper.wp
  rw [hrun]
  refine hca.mono fun e w' ⟨n', hag, he', hh'⟩ => ?_
  subst he'
  have hst : Sat cx n' s1 a w' := by
   refine ⟨hh', by rw [he.2.1]; exact hs.size, fun y hy => ?_, by rw [he.2.2]; exact hs.defers⟩
   rw [he.1] at hy
   have := hs.env y hy
   refine ⟨by rw [he.2.1]; exact this.lt, fun hH => ?_, this.no⟩
   obtain ⟨h1, h2⟩ := this.yes hH
   exact ⟨by rw [h1, AV.c_congr h2 hag], AV.ok_more h2 hm⟩
  exact hK _ _ _ (put_sat hst hs' (fun _ => ⟨rfl, hr⟩) (fun hn => absurd hH hn))
 have hne : T ≠ [] := fun e => hH (by rw [e]; intro x hx; cases hx)
 obtain rfl := hT0 hne
 exact wp_pass (fun hw => hH (hgt.1 hw)) (hK _ _ _ (put_sat hs hs' (fun hH' => absurd hH' hH) (fun _ => rfl)))
end
def AC.lt (nx : Nat) : AC → Bool
 | .p id _ => Nat.ble (id + 1) nx
 | .ref id => Nat.ble (id + 1) nx
 | .ep id _ _ _ => Nat.ble (id + 1) nx
 | .pi id _ _ _ => Nat.ble (id + 1) nx
 | .sb id _ _ _ _ _ => Nat.ble (id + 1) nx
 | _ => true
def cellsLt (nx : Nat) : List AC → Bool
 | [] => true
 | c :: r => c.lt nx && cellsLt nx r
def partsLt (nx : Nat) : List (Bool × List AC) → Bool
 | [] => true
 | c :: r => cellsLt nx c.2 && partsLt nx r
def AV.lt (nx : Nat) : AV → Bool
 | .s c => c.lt nx
 | .g cs => cellsLt nx cs
 | .t vs => partsLt nx vs
def avsLt (nx : Nat) : List AV → Bool
 | [] => true
 | c :: r => c.lt nx && avsLt nx r
def HE.lt (nx : Nat) : HE → Bool
 | .box _ cs => cellsLt nx cs
 | .lit _ _ cs => cellsLt nx cs
 | .sl .. => true
 | .clo _ u v => avsLt nx u && avsLt nx v
 | .pf .. => true
 | .jf .. => true
 | .ob .. => true
def selE (s : AS) (nx : Nat) : List Nat → Option (List (Nat × List (Nat × Bool) × AV))
 | [] => some []
 | t :: r => match look s.env t, selE s nx r with
  | some ([], v), some l => bif v.lt nx then some ((t, [], v) :: l) else none
  | _, _ => none
def memN (x : Nat) : List Nat → Bool
 | [] => false
 | y :: r => Nat.beq x y || memN x r
def selH (s : AS) (nx : Nat) : List Nat → Option (List (Nat × HE))
 | [] => some []
 | id :: r => match fnd s.hp id, selH s nx r with
  | some e, some l => bif e.lt nx && Nat.ble (id + 1) nx && !(memN id r) then some ((id, e) :: l) else none
  | _, _ => none
def AS.sel (s : AS) (m0 : Nat) (ts ids : List Nat) (nx : Nat) : Option AS :=
 match selE s nx ts, selH s nx ids with
 | some e, some h => bif Nat.ble nx s.nx && Nat.ble m0 nx then some ⟨s.nt, e, h, nx, s.df⟩ else none
 | _, _ => none
section
variable {P : Program} {tt : TT} {cx : Cx} {s s' : AS} {Q : Exit → AS → Prop}
theorem AC.lt_ok {c : AC} {s0 s1 : AS} (h : c.ok s0) (hl : c.lt s1.nx = true) (hf : ∀ id e, fnd s1.hp id = some e → fnd s0.hp id = some e) : c.ok s1 := by
 cases c with
 | p id o => exact Nat.le_of_ble_eq_true hl
 | ref id => exact Nat.le_of_ble_eq_true hl
 | pi id i sz o => exact Nat.le_of_ble_eq_true hl
 | sb id o z l hh m => exact Nat.le_of_ble_eq_true hl
 | ep id i sz o => exact ⟨Nat.le_of_ble_eq_true hl, fun e he => h.2 e (hf id e he)⟩
 | _ => trivial
theorem cellsLt_ok {cs : List AC} {s0 s1 : AS} (h : cellsOk s0 cs) (hl : cellsLt s1.nx cs = true) (hf : ∀ id e, fnd s1.hp id = some e → fnd s0.hp id = some e) : cellsOk s1 cs := by
 induction cs with
 | nil => intro c hc; cases hc
 | cons c r ih =>
  simp only [cellsLt, Bool.and_eq_true] at hl
  intro c' hc
  rcases List.mem_cons.1 hc with rfl | hc
  ·exact AC.lt_ok (h _ List.mem_cons_self) hl.1 hf
  exact ih (fun x hx => h x (List.mem_cons_of_mem _ hx)) hl.2 c' hc
theorem AV.lt_ok {v : AV} {s0 s1 : AS} (h : v.ok s0) (hl : v.lt s1.nx = true) (hf : ∀ id e, fnd s1.hp id = some e → fnd s0.hp id = some e) : v.ok s1 := by
 cases v with
 | s c => exact AC.lt_ok h hl hf
 | g cs => exact cellsLt_ok h hl hf
 | t vs =>
  simp only [AV.lt] at hl
  induction vs with
  | nil => intro c hc; cases hc
  | cons c r ih =>
   simp only [partsLt, Bool.and_eq_true] at hl
   intro c' hc
   rcases List.mem_cons.1 hc with rfl | hc
   ·exact cellsLt_ok (h _ List.mem_cons_self) hl.1 hf
   exact ih (fun x hx => h x (List.mem_cons_of_mem _ hx)) hl.2 c' hc
theorem avsLt_ok {vs : List AV} {s0 s1 : AS} (h : ∀ v ∈ vs, v.ok s0) (hl : avsLt s1.nx vs = true) (hf : ∀ id e, fnd s1.hp id = some e → fnd s0.hp id = some e) : ∀ v ∈ vs, v.ok s1 := by
 induction vs with
 | nil => intro c hc; cases hc
 | cons c r ih =>
  simp only [avsLt, Bool.and_eq_true] at hl
  intro c' hc
  rcases List.mem_cons.1 hc with rfl | hc
  ·exact AV.lt_ok (h _ List.mem_cons_self) hl.1 hf
  exact ih (fun x hx => h x (List.mem_cons_of_mem _ hx)) hl.2 c' hc
theorem HE.lt_ok {v : HE} {s0 s1 : AS} (h : v.ok s0) (hl : v.lt s1.nx = true) (hf : ∀ id e, fnd s1.hp id = some e → fnd s0.hp id = some e) : v.ok s1 := by
 cases v with
 | box ty cs => exact cellsLt_ok h hl hf
 | lit e m cs => exact cellsLt_ok h hl hf
 | sl k e sz l enc z => trivial
 | clo f u v =>
  simp only [HE.lt, Bool.and_eq_true] at hl
  exact ⟨avsLt_ok h.1 hl.1 hf, avsLt_ok h.2 hl.2 hf⟩
 | pf F G => trivial
 | jf F G => trivial
 | ob isMap o => trivial
theorem selE_spec {nx : Nat} {ts : List Nat} {l : List (Nat × List (Nat × Bool) × AV)} (h : selE s nx ts = some l) : ∀ x ∈ l, x ∈ s.env ∧ x.2.1 = [] ∧ x.2.2.lt nx = true := by
 induction ts generalizing l with
 | nil => simp only [selE] at h; cases h; intro x hx; cases hx
 | cons t r ih =>
  simp only [selE] at h
  split at h
  ·rename_i v l' hl hl'
   rcases hb : v.lt nx with _ | _
   ·rw [hb] at h; cases h
   rw [hb] at h; cases h
   intro x hx
   rcases List.mem_cons.1 hx with rfl | hx
   ·exact ⟨look_mem hl, rfl, hb⟩
   exact ih hl' x hx
  cases h
theorem memN_spec {x : Nat} {l : List Nat} (h : memN x l = false) : x ∉ l := by
 induction l with
 | nil => simp
 | cons y r ih =>
  simp only [memN, Bool.or_eq_false_iff] at h
  intro hm
  rcases List.mem_cons.1 hm with rfl | hm
  ·rw [Nat.beq_refl] at h; cases h.1
  exact ih h.2 hm
theorem selH_spec {nx : Nat} {ids : List Nat} {l : List (Nat × HE)} (h : selH s nx ids = some l) :
  (∀ x ∈ l, fnd s.hp x.1 = some x.2 ∧ x.2.lt nx = true ∧ x.1 < nx ∧ x.1 ∈ ids) ∧ l.Pairwise (fun x y => x.1 ≠ y.1) := by
 induction ids generalizing l with
 | nil => simp only [selH] at h; cases h; exact ⟨fun x hx => (by cases hx), List.Pairwise.nil⟩
 | cons t r ih =>
  simp only [selH] at h
  split at h
  ·rename_i v l' hl hl'
   rcases hb : (v.lt nx && Nat.ble (t + 1) nx && !(memN t r)) with _ | _
   ·rw [hb] at h; cases h
   rw [hb] at h; cases h
   simp only [Bool.and_eq_true, Bool.not_eq_true'] at hb
   obtain ⟨h1, h2⟩ := ih hl'
   refine ⟨fun x hx => ?_, List.pairwise_cons.2 ⟨fun y hy e => ?_, h2⟩⟩
   ·rcases List.mem_cons.1 hx with rfl | hx
    ·exact ⟨hl, hb.1.1, Nat.le_of_ble_eq_true hb.1.2, List.mem_cons_self⟩
    obtain ⟨a, b, c, d⟩ := h1 x hx
    exact ⟨a, b, c, List.mem_cons_of_mem _ d⟩
   simp only at e
   rw [e] at hb
   exact memN_spec hb.2 (h1 y hy).2.2.2
  cases h
theorem pw_mem {α : Type 1} {R : α → α → Prop} (hsym : ∀ x y, R x y → R y x) {l : List α} (h : l.Pairwise R) {x y : α} (hx : x ∈ l) (hy : y ∈ l) (hne : x ≠ y) : R x y := by
 induction l with
 | nil => cases hx
 | cons a r ih =>
  obtain ⟨h1, h2⟩ := List.pairwise_cons.1 h
  rcases List.mem_cons.1 hx with rfl | hx'
  ·rcases List.mem_cons.1 hy with rfl | hy'
   ·exact absurd rfl hne
   exact h1 y hy'
  rcases List.mem_cons.1 hy with rfl | hy'
  ·exact hsym _ _ (h1 x hx')
  exact ih h2 hx' hy'
theorem Le.refl (s : AS) : Le cx s s := fun n a w h => ⟨n, h⟩
theorem Le.trans {s1 s2 s3 : AS} (h : Le cx s1 s2) (k : Le cx s2 s3) : Le cx s1 s3 := fun n a w hs => by obtain ⟨n', hs'⟩ := h n a w hs; exact k n' a w hs'
theorem Le_sel {ts ids : List Nat} {nx : Nat} (h : s.sel cx.m0 ts ids nx = some s') : Le cx s s' := by
 unfold AS.sel at h
 split at h
 ·rename_i e hp he hh
  rcases hb : (Nat.ble nx s.nx && Nat.ble cx.m0 nx) with _ | _
  ·rw [hb] at h; cases h
  rw [hb] at h; cases h
  simp only [Bool.and_eq_true] at hb
  have hx := Nat.le_of_ble_eq_true hb.2
  have hE := selE_spec he
  obtain ⟨hH, hP⟩ := selH_spec hh
  intro n a w hs
  have hf : ∀ id e, fnd hp id = some e → fnd s.hp id = some e := fun id e hfe => (hH _ (fnd_mem hfe)).1
  refine ⟨n, ⟨hs.heap.fr, hs.heap.ini, hx, hs.heap.one, fun x hx => hs.heap.ents _ (fnd_mem (hH x hx).1), fun x hx => ?_, ?_, fun x hx => hs.heap.lt _ (fnd_mem (hH x hx).1), fun x hx => (hH x hx).2.2.1⟩, hs.size, fun x hx => ?_, hs.defers⟩
  ·exact HE.lt_ok (hs.heap.oks _ (fnd_mem (hH x hx).1)) (hH x hx).2.1 hf
  ·refine hP.imp_of_mem fun {x y} hx hy hne hm g hg hg' => ?_
   have hsym : ∀ (x y : Nat × HE), ((x.2.mut = true ∨ y.2.mut = true) → ∀ g, x.2.foot (n x.1) g → ¬ y.2.foot (n y.1) g) → ((y.2.mut = true ∨ x.2.mut = true) → ∀ g, y.2.foot (n y.1) g → ¬ x.2.foot (n x.1) g) :=
    fun x y h hm g h1 h2 => h hm.symm g h2 h1
   exact pw_mem hsym hs.heap.sep (fnd_mem (hH x hx).1) (fnd_mem (hH y hy).1) (fun e => hne (congrArg (·.1) e)) hm g hg hg'
  obtain ⟨h1, h2, h3⟩ := hE x hx
  have := hs.env x h1
  refine ⟨this.lt, fun hh => ?_, this.no⟩
  obtain ⟨e1, e2⟩ := this.yes hh
  exact ⟨e1, AV.lt_ok e2 h3 hf⟩
 cases h
theorem HSat.of_same {n : Vn} {w : World} {s1 s2 : AS} (h : HSat cx n s1 w) (h1 : s2.hp = s1.hp) (h2 : s2.nx = s1.nx) : HSat cx n s2 w := by
 refine ⟨h.fr, h.ini, by rw [h2]; exact h.inx, h.one, by rw [h1]; exact h.ents, by rw [h1]; exact fun x hx => HE.ok_same (h.oks x hx) h2 h1, by rw [h1]; exact h.sep, by rw [h1]; exact h.lt, by rw [h1, h2]; exact h.ids⟩
theorem HSat.congr {n n' : Vn} {w : World} (h : HSat cx n' s w) (hag : ∀ id, id < s.nx → n' id = n id) (one : ∀ id, (n id).oneCell' = true) : HSat cx n s w := by
 have hx : ∀ x ∈ s.hp, n' x.1 = n x.1 := fun x hx => hag _ (h.ids x hx)
 refine ⟨h.fr, fun id hid => (hag id (Nat.lt_of_lt_of_le hid h.inx)).symm.trans (h.ini id hid), h.inx, one, fun x hx' => ?_, h.oks, ?_, fun x hx' g hg => h.lt x hx' g (by rw [hx x hx']; exact hg), h.ids⟩
 ·rw [← hx x hx']
  exact HE.sat_congr (h.oks x hx') (fun id hid => (hag id hid).symm) (h.ents x hx')
 exact h.sep.imp_of_mem fun {x y} hx' hy hxy hm g hg => by rw [← hx x hx'] at hg; rw [← hx y hy]; exact hxy hm g hg
def WPQ (P : Program) (cx : Cx) (ops : Array Oper) (l : List Oper) (s : AS) (Q : Exit → AS → Prop) : Prop :=
 ∀ n a w s0, s0.hp = s.hp → s0.nx = s.nx → Sat cx n s a w → wpQuiet P ops (HSat cx n s0) (fun a' => ∀ w', HSat cx n s0 w' → Post cx Q .normal a' w') l a
theorem WP_draw {id : Nat} {ops : Array Oper} (hm : P.follows .mixedOrders = true) (hB : Region.lexB .any ops = true) (h : WPQ P cx ops ops.toList s Q) (hd : noDefer ops = true := by kernel_rfl) : WP P cx s (.region id ops true) Q := fun r m ht n a w hs => by
 simp only [Region.lexB, Bool.and_eq_true] at hB
 have h1 : wpAny P .any ops (fun e a w => e = .normal ∧ Post cx Q .normal a w) ops.size (Array.replicate ops.size false) a { w with drawn := w.drawn + 1 } := by
  refine wpAny_of_quiet (C := HSat cx n s) (Q := fun a' => ∀ w', HSat cx n s w' → Post cx Q .normal a' w') (fun _ w' hw' h => ⟨rfl, h w' hw'⟩) _ _ _ _ (hs.heap.same rfl rfl rfl rfl) ?_
  have := wpAnyQ_lex (C := HSat cx n s) (md := .any) hB.1 ops.toList 0 (Array.replicate ops.size false) a (by simp) (by simpa using hB.2) (h n a w s rfl rfl hs)
  simpa using this
 exact wpIn_mono (wpIn_region_any hm (wpAny_in hd (fun h => by obtain ⟨_, _, h, _⟩ := h; cases h) _ _ _ _ h1)) fun e a w ⟨he, h⟩ => by subst he; exact h
def stq1 (tt : TT) (ops : Array Oper) (o : Oper) (s : AS) : Option AS :=
 match gTag s ops o with
 | none => none
 | some T => match opv tt s T o.op with
  | some v => s.put o.dst T v
  | none => none
def stqs (tt : TT) (ops : Array Oper) : List Oper → AS → Option AS
 | [], s => some s
 | o :: r, s => match stq1 tt ops o s with
  | some s' => stqs tt ops r s'
  | none => none
theorem put_same {d : Option Tmp} {T : List (Nat × Bool)} {v : AV} (h : s.put d T v = some s') : s'.hp = s.hp ∧ s'.nx = s.nx ∧ s'.nt = s.nt := by
 cases d with
 | none => simp only [AS.put] at h; cases h; exact ⟨rfl, rfl, rfl⟩
 | some d =>
  simp only [AS.put] at h
  rcases hb : (Nat.ble (d + 1) s.nt && !(mentions T d)) with _ | _
  ·rw [hb] at h; cases h
  rw [hb] at h; cases h; exact ⟨rfl, rfl, rfl⟩
variable {ops : Array Oper} {rest : List Oper} {o : Oper}
theorem WPQ_nil (h : Q .normal s) : WPQ P cx ops [] s Q := fun n a w s0 h1 h2 hs w' hw' => ⟨n, s, h, ⟨hw'.of_same h1.symm h2.symm, hs.size, hs.env, hs.defers⟩⟩
theorem q_value {C : World → Prop} {a : Act} {v : Value} {K : Act → Prop} (hw : Region.wanted o (yielded ops a.tmps) = true) (hr : ∀ w, C w → (execOp a.eval o).run P w = .ok (.value v) w) (h : wpQuiet P ops C K rest (a.put o.dst v)) : wpQuiet P ops C K (o :: rest) a := by
 unfold wpQuiet
 rw [if_pos hw]
 refine ⟨v, fun w hC => ?_, h⟩
 unfold Oper.quietAt
 rw [hr w hC]
 exact ⟨rfl, rfl⟩
theorem q_pass {C : World → Prop} {a : Act} {K : Act → Prop} (hw : ¬ Region.wanted o (yielded ops a.tmps) = true) (h : wpQuiet P ops C K rest (a.put o.dst undef)) : wpQuiet P ops C K (o :: rest) a := by
 unfold wpQuiet
 rw [if_neg hw]
 exact h
theorem WPQ_op {T : List (Nat × Bool)} {r : AV} (hg : gTag s ops o = some T) (hs' : s.put o.dst T r = some s')
  (hr : tagP s T → ∀ n a w, HSat cx n s w → (∀ x ∈ s.env, EntOk n s a x) → Holds a T → (execOp a.eval o).run P w = .ok (.value (r.c n)) w ∧ r.ok s) (hK : WPQ P cx ops rest s' Q) : WPQ P cx ops (o :: rest) s Q := by
 intro n a w s0 h1 h2 hs
 have hgt := gTag_sound hs hg
 obtain ⟨e1, e2, e3⟩ := put_same hs'
 by_cases hH : Holds a T
 ·have hr' := hr (tagP_of hs.env hH)
  refine q_value (hgt.2 hH) (fun w' hw' => (hr' n a w' (hw'.of_same h1.symm h2.symm) hs.env hH).1) (hK n _ w s0 (h1.trans e1.symm) (h2.trans e2.symm) (put_sat hs hs' (fun _ => ⟨rfl, (hr' n a w hs.heap hs.env hH).2⟩) (fun hn => absurd hH hn)))
 exact q_pass (fun hw => hH (hgt.1 hw)) (hK n _ w s0 (h1.trans e1.symm) (h2.trans e2.symm) (put_sat hs hs' (fun hH' => absurd hH' hH) (fun _ => rfl)))
theorem WPQ_run1 (hT : TTok P tt) (h : stq1 tt ops o s = some s') (hK : WPQ P cx ops rest s' Q) : WPQ P cx ops (o :: rest) s Q := by
 unfold stq1 at h
 split at h
 ·cases h
 rename_i T hT'
 split at h
 ·rename_i v hv
  exact WPQ_op hT' h (fun _ n a w hh henv hH => opv_sound hT henv hH hh hv) hK
 cases h
theorem WPQ_runs (hT : TTok P tt) {l rest : List Oper} (h : stqs tt ops l s = some s') (hK : WPQ P cx ops rest s' Q) : WPQ P cx ops (l ++ rest) s Q := by
 induction l generalizing s with
 | nil => cases h; exact hK
 | cons o r ih =>
  simp only [stqs] at h
  split at h
  ·rename_i s1 h1
   exact WPQ_run1 hT h1 (ih h)
  cases h
theorem WPQ_run (hT : TTok P tt) (k : Nat) {l : List Oper} (h : (stqs tt ops (l.take k) s).isSome = true) (hK : WPQ P cx ops (l.drop k) ((stqs tt ops (l.take k) s).getD s) Q) : WPQ P cx ops l s Q := by
 obtain ⟨s', h'⟩ := Option.isSome_iff_exists.1 h
 rw [h'] at hK
 have := WPQ_runs (rest := l.drop k) hT h' hK
 rwa [List.take_append_drop] at this
theorem WPQ_all (hT : TTok P tt) {l : List Oper} (h : (stqs tt ops l s).isSome = true) (hK : Q .normal ((stqs tt ops l s).getD s)) : WPQ P cx ops l s Q := by
 obtain ⟨s', h'⟩ := Option.isSome_iff_exists.1 h
 rw [h'] at hK
 have := WPQ_runs (P := P) (cx := cx) (rest := []) hT h' (WPQ_nil hK)
 rwa [List.append_nil] at this
theorem WPQ_index (hT : TTok P tt) {T : List (Nat × Bool)} {t e : TypeId} {x ix : Operand} {id : Nat} {kd : SK} {sz : Nat} {α : Type} {l : List α} {enc : α → List Value} {z : α} {k : IntKind} {i : Int}
  (ho : o.op = .indexAddr t x ix) (hg : gTag s ops o = some T) (hx : ev s T x = some (.s (.ref id))) (hf : fnd s.hp id = some (.sl kd e sz l enc z)) (hi : ev s T ix = some (.s (.int k i)))
  (ht : (tyL tt t).map (·.d) = some (.slice e)) (hsz : (tyL tt e).map (·.size) = some sz) (hs' : s.put o.dst T (.s (.ep id i sz 0)) = some s')
  (h0 : tagP s T → 0 ≤ i ∧ i < (l.length : Int)) (hK : WPQ P cx ops rest s' Q) : WPQ P cx ops (o :: rest) s Q :=
 WPQ_op hg hs' (fun htp n a w hh henv hH => by
  have hr := index_sound hT w henv hh hH ho hx hf hi ht hsz (h0 htp)
  obtain ⟨_, e2⟩ := ev_sound henv hH hx
  refine ⟨hr, e2, fun h hh => ?_⟩
  rw [hf] at hh
  cases hh
  exact h0 htp) hK
theorem WPQ_call {T : List (Nat × Bool)} {c : Call} {x : Operand} {v : AV} {k : FuncId} {u cp vs : List AV} {r : AV}
  (ho : o.op = .call c) (hg : gTag s ops o = some T) (hc : c.callee = .value x) (hx : ev s T x = some v) (ht : target s v = some (k, u, cp)) (hvs : evl s T c.args.toList = some vs) (hgo : goes P k)
  (hr : r.ok s) (hs' : s.put o.dst T r = some s') (hcall : tagP s T → CallOk P cx s k (u ++ vs ++ cp) r s) (hK : WPQ P cx ops rest s' Q) : WPQ P cx ops (o :: rest) s Q := by
 intro n a w s0 h1 h2 hs
 have hgt := gTag_sound hs hg
 obtain ⟨e1, e2, e3⟩ := put_same hs'
 by_cases hH : Holds a T
 ·have hca := hcall (tagP_of hs.env hH)
  unfold wpQuiet
  rw [if_pos (hgt.2 hH)]
  refine ⟨r.c n, fun w' hw' => ?_, hK n _ w s0 (h1.trans e1.symm) (h2.trans e2.symm) (put_sat hs hs' (fun _ => ⟨rfl, hr⟩) (fun hn => absurd hH hn))⟩
  have hw := hw'.of_same h1.symm h2.symm
  unfold Oper.quietAt
  rw [call_run hs.env hw hH ho hc hx ht hvs hgo]
  refine ⟨rfl, (hca n w' hw).mono fun e w'' ⟨n', hag, he', hh'⟩ => ⟨?_, ?_⟩⟩
  ·rw [he', AV.c_congr hr hag]
  exact (hh'.congr hag hw.one).of_same h1 h2
 exact q_pass (fun hw => hH (hgt.1 hw)) (hK n _ w s0 (h1.trans e1.symm) (h2.trans e2.symm) (put_sat hs hs' (fun hH' => absurd hH' hH) (fun _ => rfl)))
def resv (tt : TT) (s : AS) : ResultVar → Option AV
 | .tmp t => ev s [] (.tmp t)
 | .cell p ty => match ev s [] (.tmp p) with
  | some u => ldv tt s ty u
  | none => none
def resl (tt : TT) (s : AS) : List ResultVar → Option (List AV)
 | [] => some []
 | r :: l => match resv tt s r, resl tt s l with
  | some v, some m => some (v :: m)
  | _, _ => none
def tup : List AV → Option (List (Bool × List AC))
 | [] => some []
 | v :: l => match v, tup l with
  | .s c, some m => some ((false, [c]) :: m)
  | .g cs, some m => some ((true, cs) :: m)
  | _, _ => none
def resM (tt : TT) (s : AS) (rs : List ResultVar) : Option AV :=
 match resl tt s rs with
 | some [v] => some v
 | some l => (tup l).map .t
 | none => none
def resA (tt : TT) (s : AS) (rs : List ResultVar) : Option AV :=
 match s.df with
 | [] => resM tt s rs
 | _ => none
theorem resA_spec {s : AS} {rs : List ResultVar} {v : AV} (h : resA tt s rs = some v) : s.df = [] ∧ resM tt s rs = some v := by
 unfold resA at h
 split at h
 ·rename_i hd; exact ⟨hd, h⟩
 cases h
def RetQ (tt : TT) (cx : Cx) (rs : List ResultVar) (R : Ending → World → Prop) : Exit → AS → Prop
 | .normal, s | .ret, s => ∃ r, resA tt s rs = some r ∧ ∀ n w, HSat cx n s w → R (.returned (r.c n)) w
 | _, _ => False
def resRun (a : Act) : ResultVar → Sem Value
 | .tmp t => pure (a.tmps.getD t undef)
 | .cell p t => do loadVar t (← asAddr (a.tmps.getD p undef))
theorem resv_sound (hT : TTok P tt) {n : Vn} {a : Act} {w : World} (hs : Sat cx n s a w) {r : ResultVar} {v : AV} (h : resv tt s r = some v) :
  (resRun a r).run P w = .ok (v.c n) w ∧ v.ok s := by
 have hH : Holds a [] := fun x hx => by cases hx
 cases r with
 | tmp t =>
  have h' : ev s [] (.tmp t) = some v := h
  obtain ⟨e1, e2⟩ := ev_sound hs.env hH h'
  simp only [Act.eval] at e1
  exact ⟨by simp only [resRun, Sem.run_pure, e1], e2⟩
 | cell p ty =>
  simp only [resv] at h
  split at h
  ·rename_i u hu
   obtain ⟨e1, e2⟩ := ev_sound hs.env hH hu
   simp only [Act.eval] at e1
   obtain ⟨r1, r2⟩ := ldv_sound hT hs.heap e2 h
   refine ⟨?_, r2⟩
   simp only [resRun]
   rw [e1]
   unfold Instr.loadAt at r1
   cases hu' : u.c n with
   | pointer x => cases x with
    | some ad => rw [hu'] at r1; simpa [asAddr, Instr.sureAddr] using r1
    | none => rw [hu'] at r1; simp [Instr.sureAddr] at r1
   | _ => rw [hu'] at r1; simp [Instr.sureAddr] at r1
  cases h
theorem tup_spec {n : Vn} {l : List AV} {m : List (Bool × List AC)} (h : tup l = some m) : m.map (part1 n) = l.map (AV.c n) := by
 induction l generalizing m with
 | nil => simp only [tup] at h; cases h; rfl
 | cons v r ih =>
  simp only [tup] at h
  split at h
  ·rename_i c m' hm; cases h; simp [ih hm, part1, AV.c]
  ·rename_i c m' hm; cases h; simp [ih hm, part1, AV.c]
  cases h
theorem resA_sound (hT : TTok P tt) {n : Vn} {a : Act} {w : World} (hs : Sat cx n s a w) {fn : Func} {v : AV} (h : resM tt s fn.results.toList = some v) : (results fn a.tmps).run P w = .ok (v.c n) w := by
 have key : ∀ (f : ResultVar → Sem Value), (∀ r, f r = resRun a r) → ∀ (rs : List ResultVar) (l : List AV), resl tt s rs = some l → (rs.mapM f).run P w = .ok (l.map (AV.c n)) w := by
  intro f hf rs
  induction rs with
  | nil => intro l h; simp only [resl] at h; cases h; rfl
  | cons r rs ih =>
   intro l h
   simp only [resl] at h
   split at h
   ·rename_i v m hv hm
    cases h
    rw [List.mapM_cons, Sem.run_bind, hf, (resv_sound hT hs hv).1]
    simp only [Result.andThen_ok, Sem.run_bind, ih m hm, Sem.run_pure, List.map_cons]
   cases h
 unfold results
 rw [Sem.run_bind, Array.mapM_eq_mapM_toList]
 unfold resM at h
 split at h
 ·rename_i v' hl
  cases h
  simp only [Sem.run_map]
  rw [key _ (fun r => by cases r <;> rfl) _ _ hl]
  rfl
 ·rename_i l hne hl
  obtain ⟨m, hm, rfl⟩ := Option.map_eq_some_iff.1 h
  simp only [Sem.run_map]
  rw [key _ (fun r => by cases r <;> rfl) _ _ hl]
  simp only [Result.andThen_ok]
  rw [dif_neg]
  ·simp only [Sem.run_pure, AV.c, tup_spec hm]
  intro h1
  match l, hne, h1 with
  | [v], hne, _ => exact hne v rfl
  | [], _, h1 => simp at h1
  | _ :: _ :: _, _, h1 => simp at h1
 cases h
def env0 : Nat → List AV → List (Nat × List (Nat × Bool) × AV)
 | _, [] => []
 | i, v :: r => (i, [], v) :: env0 (i + 1) r
theorem env0_mem {i : Nat} {vs : List AV} {x : Nat × List (Nat × Bool) × AV} (h : x ∈ env0 i vs) : ∃ j, x.1 = i + j ∧ vs[j]? = some x.2.2 ∧ x.2.1 = [] := by
 induction vs generalizing i with
 | nil => cases h
 | cons v r ih =>
  simp only [env0] at h
  rcases List.mem_cons.1 h with rfl | h
  ·exact ⟨0, rfl, rfl, rfl⟩
  obtain ⟨j, h1, h2, h3⟩ := ih h
  exact ⟨j + 1, by omega, by simpa using h2, h3⟩
theorem calls_of_WP (hT : TTok P tt) {k : FuncId} {fn : Func} {c : Code} {n : Vn} {w : World} {hp : List (Nat × HE)} {nx nt : Nat} {vs : List AV} {rs : List ResultVar} {R : Ending → World → Prop} (hf : P.funcs[k]? = some fn) (hb : fn.body = some c) (hnt : fn.ntmps = nt) (hrs : fn.results.toList = rs)
  (hl : Nat.ble vs.length nt = true) (hh : HSat cx n ⟨nt, env0 0 vs, hp, nx, []⟩ w) (hv : ∀ v ∈ vs, v.ok ⟨nt, env0 0 vs, hp, nx, []⟩)
  (h : WP P cx ⟨nt, env0 0 vs, hp, nx, []⟩ c (RetQ tt cx rs R)) : Calls P k (vs.map (AV.c n)).toArray w R := by
 subst hnt
 have hl := Nat.le_of_ble_eq_true hl
 refine calls_of_wp hf hb ((wpIn_wide (n := 0)).1 ?_)
 have hs : Sat cx n ⟨fn.ntmps, env0 0 vs, hp, nx, []⟩ { tmps := (vs.map (AV.c n)).toArray ++ Array.replicate (fn.ntmps - (vs.map (AV.c n)).toArray.size) undef, defers := [] } w := by
  refine ⟨hh, by simp; omega, fun x hx => ?_, rfl⟩
  obtain ⟨j, h1, h2, h3⟩ := env0_mem hx
  obtain ⟨hj, h2'⟩ := List.getElem?_eq_some_iff.1 h2
  refine ⟨by simp only; omega, fun _ => ⟨?_, hv _ (List.mem_of_getElem? h2)⟩, fun hn => absurd (by rw [h3]; intro y hy; cases hy) hn⟩
  rw [h1, Nat.zero_add]
  simp [Array.getD_eq_getD_getElem?, Array.getElem?_append, hj, h2']
 refine wpIn_mono (h none 0 (fun _ => rfl) n _ w hs) fun e a w' ⟨n', s', hq, hs'⟩ => ?_
 cases e with
 | normal =>
  obtain ⟨r, hr, hR⟩ := hq
  obtain ⟨hd, hr⟩ := resA_spec hr
  exact ⟨by rw [hs'.defers, hd]; rfl, _, resA_sound hT hs' (by rw [hrs]; exact hr), hR n' w' hs'.heap⟩
 | ret =>
  obtain ⟨r, hr, hR⟩ := hq
  obtain ⟨hd, hr⟩ := resA_spec hr
  exact ⟨by rw [hs'.defers, hd]; rfl, _, resA_sound hT hs' (by rw [hrs]; exact hr), hR n' w' hs'.heap⟩
 | _ => exact hq.elim
def cx0 (w : World) (n : Vn) (m : Nat) : Cx := ⟨w, fun k => w.heap.size ≤ k, n, m, true⟩
def n0 : Vn := fun _ => .nilFunc
theorem HSat0 (n : Vn) (w : World) (m nt nx : Nat) (e : List (Nat × List (Nat × Bool) × AV)) (one : ∀ id, (n id).oneCell' = true) (hm : m ≤ nx) : HSat (cx0 w n m) n ⟨nt, e, [], nx, []⟩ w :=
 ⟨⟨rfl, rfl, rfl, Nat.le_refl _, fun _ _ _ => rfl, fun _ h => h⟩, fun _ _ => rfl, hm, one, fun x hx => (by cases hx), fun x hx => (by cases hx), List.Pairwise.nil, fun x hx => (by cases hx), fun x hx => (by cases hx)⟩
theorem HSat.bel {n n1 : Vn} {w w' : World} {m : Nat} (h : HSat (cx0 w n m) n1 s w') : Below w.heap.size w w' := h.fr.toBelow (fun k hk => Nat.not_le.2 hk)
end
def vn (l : List Value) : Vn := fun i => l.getD i .nilFunc
theorem vn_one {l : List Value} (h : ∀ v ∈ l, v.oneCell' = true) : ∀ id, (vn l id).oneCell' = true := fun id => by
 unfold vn
 rw [List.getD_eq_getElem?_getD]
 rcases hi : l[id]? with _ | v
 ·rfl
 exact h v (List.mem_of_getElem? hi)
def RoOk (w : World) (x : Value) : HE → Prop
 | .sl .ro _ sz l enc z => (∀ y, (enc y).length = sz) ∧ 0 < sz ∧ Reads w x sz l enc z
 | .pf F G => F w ∧ (∀ w1 w2 : World, F w1 → (∀ g, G g → w2.heap[g]? = w1.heap[g]?) → F w2) ∧ ∀ g, G g → g < w.heap.size
 | _ => False
def RoAll (n : Vn) (w : World) (nx : Nat) : List (Nat × HE) → Prop
 | [] => True
 | x :: r => (RoOk w (n x.1) x.2 ∧ x.1 < nx) ∧ RoAll n w nx r
theorem RoAll.mem {n : Vn} {w : World} {nx : Nat} {l : List (Nat × HE)} (h : RoAll n w nx l) : ∀ x ∈ l, RoOk w (n x.1) x.2 ∧ x.1 < nx := by
 induction l with
 | nil => intro x hx; cases hx
 | cons y r ih =>
  intro x hx
  rcases List.mem_cons.1 hx with rfl | hx
  ·exact h.1
  exact ih h.2 x hx
theorem HSat_args {n : Vn} {w : World} {m nt nx : Nat} {e : List (Nat × List (Nat × Bool) × AV)} {hp : List (Nat × HE)} (one : ∀ id, (n id).oneCell' = true) (hm : m ≤ nx) (h : RoAll n w nx hp) : HSat (cx0 w n m) n ⟨nt, e, hp, nx, []⟩ w := by
 have hmem := h.mem
 refine ⟨⟨rfl, rfl, rfl, Nat.le_refl _, fun _ _ _ => rfl, fun _ h => h⟩, fun _ _ => rfl, hm, one, fun x hx => ?_, fun x hx => ?_, ?_, fun x hx g hg => ?_, fun x hx => (hmem x hx).2⟩
 ·obtain ⟨i, e⟩ := x
  have := (hmem _ hx).1
  cases e with
  | sl k e sz l enc z =>
   cases k with
   | ro => exact ⟨this.1, this.2.2⟩
   | _ => exact this.elim
  | pf F G => exact ⟨this.1, this.2.1⟩
  | _ => exact this.elim
 ·obtain ⟨i, e⟩ := x
  have := (hmem _ hx).1
  cases e with
  | sl k e sz l enc z => trivial
  | pf F G => trivial
  | _ => exact this.elim
 ·have hmut : ∀ x ∈ hp, x.2.mut = false := fun x hx => by
   obtain ⟨i, e⟩ := x
   have := (hmem _ hx).1
   cases e with
   | sl k e sz l enc z =>
    cases k with
    | ro => rfl
    | _ => exact this.elim
   | pf F G => rfl
   | _ => exact this.elim
  have hall : ∀ l : List (Nat × HE), (∀ x ∈ l, x.2.mut = false) → l.Pairwise fun x y => (x.2.mut = true ∨ y.2.mut = true) → ∀ g, x.2.foot (n x.1) g → ¬ y.2.foot (n y.1) g := by
   intro l
   induction l with
   | nil => intro _; exact List.Pairwise.nil
   | cons y r ih =>
    intro hl
    refine List.pairwise_cons.2 ⟨fun z hz hm => ?_, ih fun x hx => hl x (List.mem_cons_of_mem _ hx)⟩
    rcases hm with hm | hm
    ·rw [hl y List.mem_cons_self] at hm; cases hm
    rw [hl z (List.mem_cons_of_mem _ hz)] at hm; cases hm
  exact hall hp hmut
 obtain ⟨i, e⟩ := x
 have := (hmem _ hx).1
 cases e with
 | sl k e sz l enc z =>
  cases k with
  | ro =>
   obtain ⟨_, hsz, A, c, hv, _, _, h4⟩ := this
   obtain ⟨hg1, hg2⟩ := hg
   obtain ⟨ad, rfl, hc⟩ := h4 hg2
   simp only at hg1
   simp only [hv, vblk] at hg1
   cases hg1
   have := World.block_lt_of_cell? w _ (hc 0 hg2 0 hsz)
   rwa [add_block] at this
  | _ => exact this.elim
 | pf F G => exact this.2.2 g hg
 | _ => exact this.elim
theorem Reads.one {w : World} {v : Value} {sz : Nat} {α : Type} {l : List α} {enc : α → List Value} {z : α} (h : Reads w v sz l enc z) : v.oneCell' = true := by
 obtain ⟨A, c, rfl, _⟩ := h; rfl
theorem Reads.below {w w' : World} {v : Value} {sz : Nat} {α : Type} {l : List α} {enc : α → List Value} {z : α} (hsz : 0 < sz) (h : Reads w v sz l enc z) (hb : Below w.heap.size w w') : Reads w' v sz l enc z := by
 obtain ⟨A, c, rfl, h2, h3, h4⟩ := h
 refine ⟨A, c, rfl, h2, h3, fun hp => ?_⟩
 obtain ⟨ad, rfl, hc⟩ := h4 hp
 refine ⟨ad, rfl, fun j hj o ho => ?_⟩
 have h1 := hc j hj o ho
 rw [hb.cell (World.block_lt_of_cell? w _ h1)]
 exact h1
section
variable {P : Program} {tt : TT} {cx : Cx} {s s' : AS}
theorem HSat.reads {n : Vn} {w : World} (h : HSat cx n s w) {id : Nat} {kd : SK} {e : TypeId} {sz : Nat} {α : Type} {l : List α} {enc : α → List Value} {z : α} (hf : fnd s.hp id = some (.sl kd e sz l enc z)) : Reads w (n id) sz l enc z := by
 have he := h.ents _ (fnd_mem hf)
 cases kd with
 | ro => exact he.2
 | full => exact he.2.1
 | own =>
  obtain ⟨h1, _, h3⟩ := he
  rcases h3.2 with ⟨hx, h0⟩ | ⟨g, cap, cur, hx, _, hheap, hcap, hm, hcur, htk⟩
  ·have hl : l = [] := List.eq_nil_of_length_eq_zero h0
   subst hl
   exact ⟨none, 0, hx, Nat.le_refl _, Nat.zero_le _, fun hp => absurd hp (by simp)⟩
  refine ⟨_, cap, hx, hcap, hm, fun _ => ⟨_, rfl, fun j hj o ho => ?_⟩⟩
  have hlt : j * sz + o < l.length * sz := by
   have : (j + 1) * sz ≤ l.length * sz := Nat.mul_le_mul_right _ hj
   rw [Nat.add_mul] at this; omega
  rw [add_pl, Nat.zero_add, cell_of_row w g _ _ _ _ hheap]
  have e1 : cur[j * sz + o]? = (flat l enc)[j * sz + o]? := by
   rw [← htk, List.getElem?_take, if_pos hlt]; simp
  rw [e1]
  have : ∀ (l : List α) (j : Nat), j < l.length → (flat l enc)[j * sz + o]? = some ((enc (l.getD j z)).getD o undef) := by
   intro l
   induction l with
   | nil => intro j hj; simp at hj
   | cons y r ih =>
    intro j hj
    cases j with
    | zero =>
     simp only [flat, List.flatMap_cons, Nat.zero_mul, Nat.zero_add]
     rw [List.getElem?_append_left (by rw [h1]; exact ho)]
     simp [List.getD, List.getElem?_eq_getElem (show o < (enc y).length by rw [h1]; exact ho)]
    | succ j =>
     simp only [flat, List.flatMap_cons]
     rw [List.getElem?_append_right (by rw [h1, Nat.add_mul]; omega)]
     have e2 : (j + 1) * sz + o - (enc y).length = j * sz + o := by rw [h1, Nat.add_mul]; omega
     rw [e2]
     have := ih j (by simpa using hj)
     simpa [flat, List.getD] using this
  exact this l j hj
theorem CallOk.of {k : FuncId} {vs : List AV} {r : AV} (h : ∀ n w, HSat cx n s w → Calls P k (vs.map (AV.c n)).toArray w fun e w' => e = .returned (r.c n) ∧ Below w.heap.size w w') : CallOk P cx s k vs r s :=
 fun n w hh => (h n w hh).mono fun e w' ⟨h1, h2⟩ => ⟨n, fun _ _ => rfl, h1, hh.below h2⟩
end
def tagL (s : AS) : List (Nat × Bool) → List (Bool × Bool)
 | [] => []
 | (t, b) :: r => match look s.env t with
  | some (_, .s (.bool g)) => (g, b) :: tagL s r
  | _ => tagL s r
def AllEq : List (Bool × Bool) → Prop
 | [] => True
 | (g, b) :: r => g = b ∧ AllEq r
theorem tagP_all {s : AS} {T : List (Nat × Bool)} (h : tagP s T) : AllEq (tagL s T) := by
 induction T with
 | nil => trivial
 | cons x r ih =>
  obtain ⟨t, b⟩ := x
  obtain ⟨h1, h2⟩ := h
  simp only [tagL]
  split
  ·rename_i g hl
   rw [hl] at h1
   exact ⟨h1, ih h2⟩
  exact ih h2
def okB (s : AS) : AV → Bool
 | .s c => c1 c
 | .g cs => cl cs
 | .t vs => tl vs
where
 c1 : AC → Bool
  | .p id _ => Nat.ble (id + 1) s.nx
  | .ref id => Nat.ble (id + 1) s.nx
  | .sb id _ _ _ _ _ => Nat.ble (id + 1) s.nx
  | .pi id _ _ _ => Nat.ble (id + 1) s.nx
  | .ep .. => false
  | _ => true
 cl : List AC → Bool
  | [] => true
  | c :: r => c1 c && cl r
 tl : List (Bool × List AC) → Bool
  | [] => true
  | c :: r => cl c.2 && tl r
theorem okB_c1 {s : AS} {c : AC} (h : okB.c1 s c = true) : c.ok s := by
 cases c with
 | p id o => exact Nat.le_of_ble_eq_true h
 | ref id => exact Nat.le_of_ble_eq_true h
 | pi id i z o => exact Nat.le_of_ble_eq_true h
 | sb id o z l hh m => exact Nat.le_of_ble_eq_true h
 | ep id i z o => cases h
 | _ => trivial
theorem okB_cl {s : AS} {cs : List AC} (h : okB.cl s cs = true) : cellsOk s cs := by
 induction cs with
 | nil => intro c hc; cases hc
 | cons c r ih =>
  simp only [okB.cl, Bool.and_eq_true] at h
  intro c' hc
  rcases List.mem_cons.1 hc with rfl | hc
  ·exact okB_c1 h.1
  exact ih h.2 c' hc
theorem okB_sound {s : AS} {v : AV} (h : okB s v = true) : v.ok s := by
 cases v with
 | s c => exact okB_c1 h
 | g cs => exact okB_cl h
 | t vs =>
  simp only [okB] at h
  induction vs with
  | nil => intro c hc; cases hc
  | cons c r ih =>
   simp only [okB.tl, Bool.and_eq_true] at h
   intro c' hc
   rcases List.mem_cons.1 hc with rfl | hc
   ·exact okB_cl h.1
   exact ih h.2 c' hc
def isSlK (tt : TT) (t e : TypeId) : Bool := match tyL tt t with
 | some ⟨_, _, _, .slice e'⟩ => Nat.beq e e'
 | _ => false
def isSz (tt : TT) (e sz : Nat) : Bool := match tyL tt e with
 | some i => Nat.beq i.size sz
 | _ => false
def idxA (tt : TT) (ops : Array Oper) (s : AS) : List Oper → Option (AS × Int × Nat × List (Bool × Bool))
 | o :: _ => match o.op, gTag s ops o with
  | .indexAddr t x ix, some T => match ev s T x, ev s T ix with
   | some (.s (.ref id)), some (.s (.int _ i)) => match fnd s.hp id with
    | some (.sl _ e sz l _ _) => bif isSlK tt t e && isSz tt e sz then (s.put o.dst T (.s (.ep id i sz 0))).map fun s' => (s', i, l.length, tagL s T) else none
    | _ => none
   | _, _ => none
  | _, _ => none
 | [] => none
section
variable {P : Program} {tt : TT} {cx : Cx} {s s' : AS} {Q : Exit → AS → Prop} {ops : Array Oper} {l : List Oper}
theorem isSlK_spec {t e : TypeId} (h : isSlK tt t e = true) : (tyL tt t).map (·.d) = some (.slice e) := by
 unfold isSlK at h
 split at h
 ·rename_i ht; rw [ht, Nat.eq_of_beq_eq_true h]; rfl
 cases h
theorem isSz_spec {e sz : Nat} (h : isSz tt e sz = true) : (tyL tt e).map (·.size) = some sz := by
 unfold isSz at h
 split at h
 ·rename_i ht; rw [ht, ← Nat.eq_of_beq_eq_true h]; rfl
 cases h
theorem idxA_spec {r : AS × Int × Nat × List (Bool × Bool)} (h : idxA tt ops s l = some r) : ∃ (o : Oper) (rest : List Oper) (T : List (Nat × Bool)) (t e : TypeId) (x ix : Operand) (id : Nat) (kd : SK) (sz : Nat) (α : Type) (li : List α) (enc : α → List Value) (z : α) (k : IntKind),
  l = o :: rest ∧ o.op = .indexAddr t x ix ∧ gTag s ops o = some T ∧ ev s T x = some (.s (.ref id)) ∧ fnd s.hp id = some (.sl kd e sz li enc z) ∧ ev s T ix = some (.s (.int k r.2.1)) ∧
  (tyL tt t).map (·.d) = some (.slice e) ∧ (tyL tt e).map (·.size) = some sz ∧ s.put o.dst T (.s (.ep id r.2.1 sz 0)) = some r.1 ∧ r.2.2.1 = li.length ∧ r.2.2.2 = tagL s T := by
 cases l with
 | nil => cases h
 | cons o rest =>
  simp only [idxA] at h
  split at h
  ·rename_i t x ix T ho hg
   split at h
   ·rename_i id k i hx hi
    split at h
    ·rename_i kd e sz α li enc z hf
     rcases hb : (isSlK tt t e && isSz tt e sz) with _ | _
     ·rw [hb] at h; cases h
     rw [hb] at h
     simp only [Bool.and_eq_true] at hb
     obtain ⟨s', hs', rfl⟩ := Option.map_eq_some_iff.1 h
     exact ⟨o, rest, T, t, e, x, ix, id, kd, sz, α, li, enc, z, k, rfl, ho, hg, hx, hf, hi, isSlK_spec hb.1, isSz_spec hb.2, hs', rfl, rfl⟩
    cases h
   cases h
  cases h
theorem IX (hT : TTok P tt) (i : Int) (m : Nat) (G : List (Bool × Bool)) (h : (idxA tt ops s l).map (·.2) = some (i, m, G)) (h0 : AllEq G → 0 ≤ i ∧ i < (m : Int)) (hK : WPO P cx ops l.tail (((idxA tt ops s l).map (·.1)).getD s) Q) : WPO P cx ops l s Q := by
 obtain ⟨⟨s', i', m', G'⟩, hr, he⟩ := Option.map_eq_some_iff.1 h
 simp only [Prod.mk.injEq] at he
 obtain ⟨rfl, rfl, rfl⟩ := he
 obtain ⟨o, rest, T, t, e, x, ix, id, kd, sz, α, li, enc, z, k, rfl, ho, hg, hx, hf, hi, ht, hsz, hs', hm, hG⟩ := idxA_spec hr
 simp only at hm hG
 rw [hr] at hK
 exact WPO_index hT ho hg hx hf hi ht hsz hs' (fun hp => by have := h0 (by rw [hG]; exact tagP_all hp); rw [hm] at this; exact this) hK
theorem QIX (hT : TTok P tt) (i : Int) (m : Nat) (G : List (Bool × Bool)) (h : (idxA tt ops s l).map (·.2) = some (i, m, G)) (h0 : AllEq G → 0 ≤ i ∧ i < (m : Int)) (hK : WPQ P cx ops l.tail (((idxA tt ops s l).map (·.1)).getD s) Q) : WPQ P cx ops l s Q := by
 obtain ⟨⟨s', i', m', G'⟩, hr, he⟩ := Option.map_eq_some_iff.1 h
 simp only [Prod.mk.injEq] at he
 obtain ⟨rfl, rfl, rfl⟩ := he
 obtain ⟨o, rest, T, t, e, x, ix, id, kd, sz, α, li, enc, z, k, rfl, ho, hg, hx, hf, hi, ht, hsz, hs', hm, hG⟩ := idxA_spec hr
 simp only at hm hG
 rw [hr] at hK
 exact WPQ_index hT ho hg hx hf hi ht hsz hs' (fun hp => by have := h0 (by rw [hG]; exact tagP_all hp); rw [hm] at this; exact this) hK
def callA (ops : Array Oper) (s : AS) : List Oper → Option (FuncId × List AV × List (Bool × Bool) × Option Tmp × List (Nat × Bool))
 | o :: _ => match o.op, gTag s ops o with
  | .call c, some T => match c.callee with
   | .value x => match ev s T x, evl s T c.args.toList with
    | some v, some vs => (target s v).map fun (k, u, cp) => (k, u ++ vs ++ cp, tagL s T, o.dst, T)
    | _, _ => none
   | _ => none
  | _, _ => none
 | [] => none
def callP (ops : Array Oper) (s : AS) (l : List Oper) (r : AV) : Option AS :=
 match callA ops s l with
 | some (_, _, _, d, T) => s.put d T r
 | none => none
def callPN (ops : Array Oper) (s : AS) (l : List Oper) (s1 : AS) (r : AV) : Option AS :=
 match callA ops s l with
 | some (_, _, _, d, []) => s1.put d [] r
 | _ => none
theorem callA_spec {k : FuncId} {vs : List AV} {G : List (Bool × Bool)} {d : Option Tmp} {T : List (Nat × Bool)} (h : callA ops s l = some (k, vs, G, d, T)) : ∃ (o : Oper) (rest : List Oper) (c : Call) (x : Operand) (v : AV) (u cp vs' : List AV),
  l = o :: rest ∧ o.op = .call c ∧ gTag s ops o = some T ∧ c.callee = .value x ∧ ev s T x = some v ∧ target s v = some (k, u, cp) ∧ evl s T c.args.toList = some vs' ∧ vs = u ++ vs' ++ cp ∧ G = tagL s T ∧ d = o.dst := by
 cases l with
 | nil => cases h
 | cons o rest =>
  simp only [callA] at h
  split at h
  ·rename_i c T' ho hg
   split at h
   ·rename_i x hc
    split at h
    ·rename_i v vs' hv hvs
     obtain ⟨⟨k', u, cp⟩, ht, he⟩ := Option.map_eq_some_iff.1 h
     simp only [Prod.mk.injEq] at he
     obtain ⟨rfl, rfl, rfl, rfl, rfl⟩ := he
     exact ⟨o, rest, c, x, v, u, cp, vs', rfl, ho, hg, hc, hv, ht, hvs, rfl, rfl, rfl⟩
    cases h
   cases h
  cases h
theorem CALL (k : FuncId) (vs : List AV) (r : AV) (G : List (Bool × Bool)) (h : (callA ops s l).map (fun x => (x.1, x.2.1, x.2.2.1)) = some (k, vs, G)) (hgo : goes P k) (hp : (callP ops s l r).isSome = true) (hr : okB s r = true)
  (hcall : AllEq G → ∀ n w, HSat cx n s w → Calls P k (vs.map (AV.c n)).toArray w fun e w' => e = .returned (r.c n) ∧ Below w.heap.size w w')
  (hK : WPO P cx ops l.tail ((callP ops s l r).getD s) Q) : WPO P cx ops l s Q := by
 obtain ⟨⟨k', vs', G', d, T⟩, hr', he⟩ := Option.map_eq_some_iff.1 h
 simp only [Prod.mk.injEq] at he
 obtain ⟨rfl, rfl, rfl⟩ := he
 obtain ⟨o, rest, c, x, v, u, cp, vs'', rfl, ho, hg, hc, hv, ht, hvs, rfl, rfl, rfl⟩ := callA_spec hr'
 obtain ⟨s', hs'⟩ := Option.isSome_iff_exists.1 hp
 rw [hs'] at hK
 simp only [callP, hr'] at hs'
 exact WPO_call ho hg hc hv ht hvs hgo (fun _ => rfl) (okB_sound hr) (More.refl s) ⟨rfl, rfl, rfl⟩ hs' (fun hp => CallOk.of (hcall (tagP_all hp))) hK
theorem QCALL (k : FuncId) (vs : List AV) (r : AV) (G : List (Bool × Bool)) (h : (callA ops s l).map (fun x => (x.1, x.2.1, x.2.2.1)) = some (k, vs, G)) (hgo : goes P k) (hp : (callP ops s l r).isSome = true) (hr : okB s r = true)
  (hcall : AllEq G → ∀ n w, HSat cx n s w → Calls P k (vs.map (AV.c n)).toArray w fun e w' => e = .returned (r.c n) ∧ Below w.heap.size w w')
  (hK : WPQ P cx ops l.tail ((callP ops s l r).getD s) Q) : WPQ P cx ops l s Q := by
 obtain ⟨⟨k', vs', G', d, T⟩, hr', he⟩ := Option.map_eq_some_iff.1 h
 simp only [Prod.mk.injEq] at he
 obtain ⟨rfl, rfl, rfl⟩ := he
 obtain ⟨o, rest, c, x, v, u, cp, vs'', rfl, ho, hg, hc, hv, ht, hvs, rfl, rfl, rfl⟩ := callA_spec hr'
 obtain ⟨s', hs'⟩ := Option.isSome_iff_exists.1 hp
 rw [hs'] at hK
 simp only [callP, hr'] at hs'
 exact WPQ_call ho hg hc hv ht hvs hgo (okB_sound hr) hs' (fun hp => CallOk.of (hcall (tagP_all hp))) hK
theorem CALLN (k : FuncId) (vs : List AV) (s1 : AS) (r : AV) (h : (callA ops s l).map (fun x => (x.1, x.2.1)) = some (k, vs)) (hgo : goes P k) (hp : (callPN ops s l s1 r).isSome = true) (hr : okB s1 r = true) (hm : More s s1) (he : s1.env = s.env ∧ s1.nt = s.nt ∧ s1.df = s.df)
  (hcall : CallOk P cx s k vs r s1) (hK : WPO P cx ops l.tail ((callPN ops s l s1 r).getD s) Q) : WPO P cx ops l s Q := by
 obtain ⟨⟨k', vs', G', d, T⟩, hr', he'⟩ := Option.map_eq_some_iff.1 h
 simp only [Prod.mk.injEq] at he'
 obtain ⟨rfl, rfl⟩ := he'
 obtain ⟨o, rest, c, x, v, u, cp, vs'', rfl, ho, hg, hc, hv, ht, hvs, rfl, rfl, rfl⟩ := callA_spec hr'
 obtain ⟨s', hs'⟩ := Option.isSome_iff_exists.1 hp
 rw [hs'] at hK
 simp only [callPN, hr'] at hs'
 cases T with
 | nil => exact WPO_call ho hg hc hv ht hvs hgo (fun h => absurd rfl h) (okB_sound hr) hm he hs' (fun _ => hcall) hK
 | cons y T => simp at hs'
def binA (ops : Array Oper) (s : AS) : List Oper → Option (BinOp × TypeId × Operand × Operand × AV × AV × List (Bool × Bool) × Option Tmp × List (Nat × Bool))
 | o :: _ => match o.op, gTag s ops o with
  | .binOp op t x y _, some T => match ev s T x, ev s T y with
   | some u, some v => some (op, t, x, y, u, v, tagL s T, o.dst, T)
   | _, _ => none
  | _, _ => none
 | [] => none
def binP (ops : Array Oper) (s : AS) (l : List Oper) (r : AV) : Option AS :=
 match binA ops s l with
 | some (_, _, _, _, _, _, _, d, T) => s.put d T r
 | none => none
def BinOk (P : Program) (cx : Cx) (s : AS) (op : BinOp) (t : TypeId) (x y : Operand) (u v r : AV) : Prop :=
 ∀ n w, HSat cx n s w → (do eqGuard op t x y (u.c n) (v.c n); binOp op t (u.c n) (v.c n) : Sem Value).run P w = .ok (r.c n) w
theorem binA_spec {op : BinOp} {t : TypeId} {x y : Operand} {u v : AV} {G : List (Bool × Bool)} {d : Option Tmp} {T : List (Nat × Bool)} (h : binA ops s l = some (op, t, x, y, u, v, G, d, T)) :
  ∃ (o : Oper) (rest : List Oper) (t' : TypeId), l = o :: rest ∧ o.op = .binOp op t x y t' ∧ gTag s ops o = some T ∧ ev s T x = some u ∧ ev s T y = some v ∧ G = tagL s T ∧ d = o.dst := by
 cases l with
 | nil => cases h
 | cons o rest =>
  simp only [binA] at h
  split at h
  ·rename_i op' t' x' y' t'' T' ho hg
   split at h
   ·rename_i u' v' hu hv
    simp only [Option.some.injEq, Prod.mk.injEq] at h
    obtain ⟨rfl, rfl, rfl, rfl, rfl, rfl, rfl, rfl, rfl⟩ := h
    exact ⟨o, rest, _, rfl, ho, hg, hu, hv, rfl, rfl⟩
   cases h
  cases h
theorem WPO_val {T : List (Nat × Bool)} {r : AV} {o : Oper} {rest : List Oper} (hg : gTag s ops o = some T) (hs' : s.put o.dst T r = some s')
  (hr : tagP s T → ∀ n a w, HSat cx n s w → (∀ x ∈ s.env, EntOk n s a x) → Holds a T → (execOp a.eval o).run P w = .ok (.value (r.c n)) w ∧ r.ok s) (hK : WPO P cx ops rest s' Q) : WPO P cx ops (o :: rest) s Q := fun n a w hs => by
 have hgt := gTag_sound hs hg
 by_cases hH : Holds a T
 ·obtain ⟨r1, r2⟩ := hr (tagP_of hs.env hH) n a w hs.heap hs.env hH
  exact wp_value (hgt.2 hH) r1 (hK _ _ _ (put_sat hs hs' (fun _ => ⟨rfl, r2⟩) (fun hn => absurd hH hn)))
 exact wp_pass (fun hw => hH (hgt.1 hw)) (hK _ _ _ (put_sat hs hs' (fun hH' => absurd hH' hH) (fun _ => rfl)))
theorem BIN (op : BinOp) (t : TypeId) (x y : Operand) (u v r : AV) (G : List (Bool × Bool)) (h : (binA ops s l).map (fun z => (z.1, z.2.1, z.2.2.1, z.2.2.2.1, z.2.2.2.2.1, z.2.2.2.2.2.1, z.2.2.2.2.2.2.1)) = some (op, t, x, y, u, v, G))
  (hp : (binP ops s l r).isSome = true) (hr : okB s r = true) (hb : AllEq G → BinOk P cx s op t x y u v r) (hK : WPO P cx ops l.tail ((binP ops s l r).getD s) Q) : WPO P cx ops l s Q := by
 obtain ⟨⟨op', t', x', y', u', v', G', d, T⟩, hr', he⟩ := Option.map_eq_some_iff.1 h
 simp only [Prod.mk.injEq] at he
 obtain ⟨rfl, rfl, rfl, rfl, rfl, rfl, rfl⟩ := he
 obtain ⟨o, rest, t'', rfl, ho, hg, hu, hv, rfl, rfl⟩ := binA_spec hr'
 obtain ⟨s', hs'⟩ := Option.isSome_iff_exists.1 hp
 rw [hs'] at hK
 simp only [binP, hr'] at hs'
 refine WPO_val hg hs' (fun htp n a w hh henv hH => ⟨?_, okB_sound hr⟩) hK
 obtain ⟨e1, _⟩ := ev_sound henv hH hu
 obtain ⟨e2, _⟩ := ev_sound henv hH hv
 unfold execOp
 rw [ho]
 simp only [e1, e2]
 rw [Sem.run_bind, hb (tagP_all htp) n w hh]
 rfl
theorem QBIN (op : BinOp) (t : TypeId) (x y : Operand) (u v r : AV) (G : List (Bool × Bool)) (h : (binA ops s l).map (fun z => (z.1, z.2.1, z.2.2.1, z.2.2.2.1, z.2.2.2.2.1, z.2.2.2.2.2.1, z.2.2.2.2.2.2.1)) = some (op, t, x, y, u, v, G))
  (hp : (binP ops s l r).isSome = true) (hr : okB s r = true) (hb : AllEq G → BinOk P cx s op t x y u v r) (hK : WPQ P cx ops l.tail ((binP ops s l r).getD s) Q) : WPQ P cx ops l s Q := by
 obtain ⟨⟨op', t', x', y', u', v', G', d, T⟩, hr', he⟩ := Option.map_eq_some_iff.1 h
 simp only [Prod.mk.injEq] at he
 obtain ⟨rfl, rfl, rfl, rfl, rfl, rfl, rfl⟩ := he
 obtain ⟨o, rest, t'', rfl, ho, hg, hu, hv, rfl, rfl⟩ := binA_spec hr'
 obtain ⟨s', hs'⟩ := Option.isSome_iff_exists.1 hp
 rw [hs'] at hK
 simp only [binP, hr'] at hs'
 refine WPQ_op hg hs' (fun htp n a w hh henv hH => ⟨?_, okB_sound hr⟩) hK
 obtain ⟨e1, _⟩ := ev_sound henv hH hu
 obtain ⟨e2, _⟩ := ev_sound henv hH hv
 unfold execOp
 rw [ho]
 simp only [e1, e2]
 rw [Sem.run_bind, hb (tagP_all htp) n w hh]
 rfl
theorem eqGuard_int {op : BinOp} {t : TypeId} {x y : Operand} {k k' : IntKind} {a b : Int} {w : World} : (eqGuard op t x y (.int k a) (.int k' b)).run P w = .ok () w := by
 simp only [eqGuard]
 cases op <;> simp
theorem BinOk_quo {t : TypeId} {x y : Operand} {k : IntKind} {a b : Int} (hb : b ≠ 0) : BinOk P cx s .quo t x y (.s (.int k a)) (.s (.int k b)) (.s (.int k (k.wrap (a.tdiv b)))) := fun n w _ => by
 simp only [AV.c, AC.c]
 rw [Sem.run_bind, eqGuard_int]
 simp [binOp, Op.intDiv, hb]
theorem BinOk_rem {t : TypeId} {x y : Operand} {k : IntKind} {a b : Int} (hb : b ≠ 0) : BinOk P cx s .rem t x y (.s (.int k a)) (.s (.int k b)) (.s (.int k (a.tmod b))) := fun n w _ => by
 simp only [AV.c, AC.c]
 rw [Sem.run_bind, eqGuard_int]
 simp [binOp, Op.intDiv, hb]
theorem HSat.weak {n : Vn} {w : World} (h : HSat cx n s w) {id : Nat} {e0 e : HE} (hf : fnd s.hp id = some e0) (hm : e.mut = true → e0.mut = true) (hfe : ∀ g, e.foot (n id) g → e0.foot (n id) g) (hlen : e0.len ≤ e.len) (hnew : e.sat n cx.ok w (n id)) (hke : e.ok s) :
  HSat cx n { s with hp := rep s.hp id e } w := by
 have hmore : More s { s with hp := rep s.hp id e } := ⟨Nat.le_refl _, fun i _ e' he' => by
  by_cases hi : i = id
  ·subst hi
   have : fnd (rep s.hp i e) i = some e := fnd_rep_eq hf
   rw [this] at he'
   cases he'
   exact ⟨e0, hf, hlen⟩
  exact ⟨e', by rw [← fnd_rep_ne (e := e) hi]; exact he', Nat.le_refl _⟩⟩
 refine ⟨h.fr, h.ini, h.inx, h.one, fun x hx => ?_, fun x hx => ?_, ?_, fun x hx g hg => ?_, fun x hx => ?_⟩
 ·rcases rep_mem hx with hx | rfl
  ·exact h.ents x hx
  exact hnew
 ·rcases rep_mem hx with hx | rfl
  ·exact HE.ok_more (h.oks x hx) hmore
  exact HE.ok_more hke hmore
 ·have hs := h.sep
  have : ∀ l : List (Nat × HE), fnd l id = some e0 → (l.Pairwise fun x y => (x.2.mut = true ∨ y.2.mut = true) → ∀ g, x.2.foot (n x.1) g → ¬ y.2.foot (n y.1) g) →
    ((rep l id e).Pairwise fun x y => (x.2.mut = true ∨ y.2.mut = true) → ∀ g, x.2.foot (n x.1) g → ¬ y.2.foot (n y.1) g) := by
   intro l
   induction l with
   | nil => intro _ _; exact List.Pairwise.nil
   | cons y r ih =>
    intro hf hp
    obtain ⟨h1, h2⟩ := List.pairwise_cons.1 hp
    simp only [rep]
    rcases hb : Nat.beq y.1 id with _ | _
    ·simp only [fnd, hb, cond_false] at hf
     refine List.pairwise_cons.2 ⟨fun z hz hm' g hg hgz => ?_, ih hf h2⟩
     rcases rep_mem hz with hz | rfl
     ·exact h1 z hz hm' g hg hgz
     exact h1 _ (fnd_mem hf) (hm'.imp (fun h => h) hm) g hg (hfe g hgz)
    simp only [fnd, hb, cond_true] at hf
    have hid := Nat.eq_of_beq_eq_true hb
    cases hf
    refine List.pairwise_cons.2 ⟨fun z hz hm' g hg hgz => ?_, h2⟩
    simp only at hg
    rw [hid] at hg
    exact h1 z hz (hm'.imp hm (fun h => h)) g (by rw [hid]; exact hfe g hg) hgz
  exact this s.hp hf hs
 ·rcases rep_mem hx with hx | rfl
  ·exact h.lt x hx g hg
  exact h.lt _ (fnd_mem hf) g (hfe g hg)
 rcases rep_mem hx with hx | rfl
 ·exact h.ids x hx
 exact h.ids (id, e0) (fnd_mem hf)
theorem Sat.weak {n : Vn} {a : Act} {w : World} (hs : Sat cx n s a w) {id : Nat} {e0 e : HE} (hf : fnd s.hp id = some e0) (hm : e.mut = true → e0.mut = true) (hfe : ∀ g, e.foot (n id) g → e0.foot (n id) g) (hlen : e0.len ≤ e.len) (hnew : e.sat n cx.ok w (n id)) (hke : e.ok s) :
  Sat cx n { s with hp := rep s.hp id e } a w := by
 refine env_hp hs ⟨Nat.le_refl _, fun i _ e' he' => ?_⟩ (hs.heap.weak hf hm hfe hlen hnew hke)
 by_cases hi : i = id
 ·subst hi
  have : fnd (rep s.hp i e) i = some e := fnd_rep_eq hf
  rw [this] at he'
  cases he'
  exact ⟨e0, hf, hlen⟩
 exact ⟨e', by rw [← fnd_rep_ne (e := e) hi]; exact he', Nat.le_refl _⟩
def bnd (s : AS) (d : Int) : Option Operand → Option Int
 | none => some d
 | some x => match ev s [] x with
  | some (.s (.int .i64 i)) => some i
  | _ => none
def slcA (tt : TT) (s : AS) : List Oper → Option (Nat × SK × TypeId × Nat × Nat × Int × Int × Option Int × Option Tmp)
 | o :: _ => match o.op, o.guard with
  | .slice t x lo hi mx, none => match ev s [] x with
   | some (.s (.ref id)) => match fnd s.hp id with
    | some (.sl kd e sz li _ _) => bif isSlK tt t e && isSz tt e sz && (mx.isNone || hi.isSome) then
      match bnd s 0 lo, bnd s li.length hi, (match mx with | none => some none | some m => (bnd s 0 (some m)).map some : Option (Option Int)) with
      | some i, some j, some m => some (id, kd, e, sz, li.length, i, j, m, o.dst)
      | _, _, _ => none
     else none
    | _ => none
   | _ => none
  | _, _ => none
 | [] => none
def cut {α : Type} (li : List α) (i j : Int) : List α := (li.take j.toNat).drop i.toNat
def bv (d : Int) : Option Value → Int → Prop
 | none, i => i = d
 | some v, i => v = .int .i64 i
theorem run_bounds {len cap : Nat} {w : World} {lo hi mx : Option Value} {i j m : Int} (hlo : bv 0 lo i) (hhi : bv len hi j) (hmx : bv cap mx m) (hx : mx.isNone || hi.isSome)
  (h : 0 ≤ i ∧ i ≤ j ∧ j ≤ m ∧ m ≤ cap) : (Instr.sliceBounds true len cap lo hi mx).run P w = .ok (i.toNat, j.toNat, m.toNat) w := by
 obtain ⟨h0, h1, h2, h3⟩ := h
 unfold Instr.sliceBounds
 have hsb : ∀ (x : Int) (y : Nat) (c : BoundsCode), 0 ≤ x → x ≤ y → (Instr.sliceBound (.int .i64 x) y c).run P w = .ok x.toNat w := fun x y c hx hy => by
  simp [Instr.sliceBound, asIntOf, hx, hy]
 have e1 : (j.toNat : Int) = j := Int.toNat_of_nonneg (by omega)
 have e2 : (m.toNat : Int) = m := Int.toNat_of_nonneg (by omega)
 cases mx with
 | none =>
  have hm : m = cap := hmx
  cases hi with
  | none =>
   have hj : j = len := hhi
   cases lo with
   | none => have hi : i = 0 := hlo; simp [hi, hj, hm]
   | some v => have hi : v = .int .i64 i := hlo; subst hi; simp [hsb i len _ h0 (by omega), hj, hm]
  | some v =>
   have hj : v = .int .i64 j := hhi
   subst hj
   cases lo with
   | none => have hi : i = 0 := hlo; simp [hsb j cap _ (by omega) (by omega), hi, hm]
   | some v => have hi : v = .int .i64 i := hlo; subst hi; simp [hsb j cap _ (by omega) (by omega), hsb i j.toNat _ h0 (by omega), hm]
 | some v =>
  have hm : v = .int .i64 m := hmx
  subst hm
  cases hi with
  | none => cases hx
  | some v =>
   have hj : v = .int .i64 j := hhi
   subst hj
   cases lo with
   | none => have hi : i = 0 := hlo; simp [hsb m cap _ (by omega) h3, hsb j m.toNat _ (by omega) (by omega), hi]
   | some v => have hi : v = .int .i64 i := hlo; subst hi; simp [hsb m cap _ (by omega) h3, hsb j m.toNat _ (by omega) (by omega), hsb i j.toNat _ h0 (by omega)]
theorem cut_len {α : Type} {li : List α} {i j : Int} (h : 0 ≤ i ∧ i ≤ j ∧ j ≤ li.length) : (cut li i j).length = j.toNat - i.toNat := by
 unfold cut; simp; omega
theorem cut_reads {α : Type} {li : List α} {enc : α → List Value} {z : α} {sz : Nat} {w : World} {A : Option Addr} {c : Nat} {i j m : Int} (hr : Reads w (.slice A li.length c) sz li enc z) (h : 0 ≤ i ∧ i ≤ j ∧ j ≤ li.length) (hm : j ≤ m ∧ m ≤ c) :
  Reads w (.slice (if m.toNat = i.toNat then A else A.map (·.add (i.toNat * sz))) (j.toNat - i.toNat) (m.toNat - i.toNat)) sz (cut li i j) enc z := by
 obtain ⟨A', c', hv, h1, h2, h3⟩ := hr
 cases hv
 have hl := cut_len h
 refine ⟨_, _, by rw [hl], by omega, by omega, fun hp => ?_⟩
 obtain ⟨ad, rfl, hc⟩ := h3 (by omega)
 rw [if_neg (by omega)]
 refine ⟨_, rfl, fun k hk o ho => ?_⟩
 rw [add_add, ← Nat.add_assoc, ← Nat.add_mul]
 rw [hc (i.toNat + k) (by omega) o ho]
 unfold cut
 have : ((li.take j.toNat).drop i.toNat).getD k z = li.getD (i.toNat + k) z := by
  simp only [List.getD_eq_getElem?_getD, List.getElem?_drop, List.getElem?_take]
  rw [if_pos (by omega)]
 rw [this]
end
def zrep (m : Nat) (z : List AC) : List AC := (List.range (m * z.length)).map fun i => z.getD (i % z.length) (.v undef)
def litA (tt : TT) (s : AS) : List Oper → Option (TypeId × Nat × List AC × Option Tmp)
 | o :: _ => match o.op, o.guard with
  | .buildSlice t m ps, none => match tyL tt t with
   | some ⟨_, _, _, .slice e⟩ => match tyL tt e, evs s [] ps.toList with
    | some i, some vs => bif Nat.ble 1 i.size && Nat.beq (avOf i.zero).cells.length i.size && Nat.ble (m * i.size) 16777216 then (fillA (fun j => some (j * i.size, i.size)) (zrep m (avOf i.zero).cells) vs).map fun cs => (e, m, cs, o.dst) else none
    | _, _ => none
   | _ => none
  | _, _ => none
 | [] => none
def litP (tt : TT) (s : AS) (l : List Oper) : Option AS :=
 match litA tt s l with
 | some (e, m, cs, d) => (s.add (.lit e m cs)).put d [] (.s (.ref s.nx))
 | none => none
section
variable {P : Program} {tt : TT} {cx : Cx} {s s' : AS} {Q : Exit → AS → Prop} {ops : Array Oper} {l : List Oper}
theorem zrep_c {n : Vn} {m : Nat} {z : List AC} (hz : 0 < z.length) : cellsV n (zrep m z) = (Array.range (m * z.length)).map (fun i => ((z.map (AC.c n)).toArray)[i % ((z.map (AC.c n)).toArray).size]!) := by
 apply Array.ext'
 simp only [cellsV, zrep, List.map_map, Array.toList_map, Array.toList_range]
 apply List.map_congr_left
 intro i _
 have h : i % z.length < z.length := Nat.mod_lt _ hz
 simp [Function.comp_def, List.getD_eq_getElem?_getD, h]
theorem zrep_ok {z : List AC} (h : cellsOk s z) (m : Nat) : cellsOk s (zrep m z) := fun c hc => by
 obtain ⟨i, _, rfl⟩ := List.mem_map.1 hc
 rw [List.getD_eq_getElem?_getD]
 rcases hx : z[i % z.length]? with _ | c
 ·trivial
 exact h c (List.mem_of_getElem? hx)
theorem LIT (hT : TTok P tt) (h : (litP tt s l).isSome = true) (hK : WPO P cx ops l.tail ((litP tt s l).getD s) Q) : WPO P cx ops l s Q := by
 obtain ⟨s', hs'⟩ := Option.isSome_iff_exists.1 h
 rw [hs'] at hK
 unfold litP at hs'
 split at hs' <;> try (cases hs'; done)
 rename_i e m cs d ha
 cases l with
 | nil => cases ha
 | cons o rest =>
  simp only [litA] at ha
  split at ha <;> try (cases ha; done)
  rename_i t m' ps ho hg
  split at ha <;> try (cases ha; done)
  rename_i z1 b1 zv1 e' ht
  split at ha <;> try (cases ha; done)
  rename_i i vs hi hvs
  rcases hb : (Nat.ble 1 i.size && Nat.beq (avOf i.zero).cells.length i.size && Nat.ble (m' * i.size) 16777216) with _ | _
  ·rw [hb] at ha; cases ha
  rw [hb] at ha
  simp only [Bool.and_eq_true] at hb
  obtain ⟨cs', hcs, he⟩ := Option.map_eq_some_iff.1 ha
  simp only [Prod.mk.injEq] at he
  obtain ⟨rfl, rfl, rfl, rfl⟩ := he
  have hb1 := Nat.le_of_ble_eq_true hb.1.1
  have hb2 := Nat.eq_of_beq_eq_true hb.1.2
  have hb3 := Nat.le_of_ble_eq_true hb.2
  intro n a w hs
  have hw : Region.wanted o (yielded ops a.tmps) = true := by simp [Region.wanted, hg]
  have hH : Holds a [] := fun x hx => by cases hx
  obtain ⟨F⟩ := hT.get ht
  obtain ⟨G⟩ := hT.get hi
  have hd : F.desc = .slice e' := by
   have := F.td
   cases hd : F.desc <;> rw [hd] at this <;> simp only [tdOf] at this <;> first
    | (cases this; done)
    | (injection this with h; rw [h])
  obtain ⟨e1, e2, e3⟩ := evs_sound hs.env hH hvs
  have hzok : cellsOk s (avOf i.zero).cells := cells_ok (avOf_ok s _)
  have hok : cellsOk s cs' := fill_ok (zrep_ok hzok m') (fun x hx => cells_ok (e3 x hx)) hcs
  have hm : m' ≤ 16777216 := Nat.le_trans (Nat.le_mul_of_pos_right _ hb1) hb3
  have hrun : (execOp a.eval o).run P w = .ok (.value (.slice (some ⟨w.heap.size, 0, none⟩) m' m')) (w.alloc (.cells (cellsV n cs') e')) := by
   unfold execOp
   rw [ho]
   have hps : (ps.map fun x => (x.1, a.eval x.2)) = (vs.map fun x => (x.1, x.2.c n)).toArray := by
    apply Array.ext'
    simpa using e1
   have hf := fill_sound (n := n) hs.heap.one e2 hcs
   have hzc : (i.zero).cells = ((avOf i.zero).cells.map (AC.c n)).toArray := zero_cells n
   rw [zrep_c (by omega), hb2] at hf
   have hnz : ¬ m' * i.size > 2 ^ 24 := by simp; omega
   simp only [hps, Instr.buildSlice, Sem.run_bind, run_underlying F.hdesc, hd, Result.andThen_ok, run_sizeOf' G]
   rw [if_neg hnz]
   by_cases h0 : m' * i.size = 0
   ·rw [if_pos h0]
    simp only [Sem.run_pure, Result.andThen_ok, Sem.run_bind]
    rw [h0] at hf ⊢
    have hr : ∀ f : Nat → Value, (Array.range 0).map f = #[] := fun f => Array.ext' (by simp)
    simp only [hr] at hf ⊢
    simp only [hf, newRow, Sem.run_bind, run_newObj, Result.andThen_ok, Sem.run_pure, World.alloc_eq]
   rw [if_neg h0]
   simp only [Sem.run_bind, run_zero' G, Result.andThen_ok, Sem.run_pure]
   rw [hzc]
   simp only [hf, newRow, Sem.run_bind, run_newObj, Result.andThen_ok, Sem.run_pure, World.alloc_eq]
  have hst : Sat cx (upd n s.nx (.slice (some ⟨w.heap.size, 0, none⟩) m' m')) (s.add (.lit e' m' cs')) a (w.alloc (.cells (cellsV n cs') e')) := by
   refine env_add hs (upd_lt _ _ _) (hs.heap.add ((Below.refl _ _).alloc (Nat.le_refl _) _) rfl ⟨w.heap.size, rfl, hs.heap.fr.news _ hs.heap.fr.size, by simp only [maxLen]; omega, ?_⟩ hok (fun g hg => ?_) (fun g hg => ?_))
   ·rw [heap_alloc_new, cellsV_congr hok (upd_lt _ _ _)]
   ·simp only [HE.foot, vblk] at hg; cases hg; simp
   simp only [HE.foot, vblk] at hg; cases hg; exact .inl (Nat.le_refl _)
  exact wp_value hw hrun (hK _ _ _ (put_sat hst hs' (fun _ => ⟨by simp only [AV.c, AC.c, upd_same], Nat.lt_succ_self _⟩) (fun hn => absurd hH hn)))
theorem lit_sl {n : Vn} {w : World} (h : HSat cx n s w) {id : Nat} {e : TypeId} {m sz : Nat} {cs : List AC} {α : Type} {li : List α} {enc : α → List Value} {z : α} (hf : fnd s.hp id = some (.lit e m cs)) (hm : m = li.length) (henc : ∀ y, (enc y).length = sz) (hcs : ∀ n, cs.map (AC.c n) = flat li enc) :
  HSat cx n { s with hp := rep s.hp id (.sl .own e sz li enc z) } w := by
 obtain ⟨g, hv, hok, hmx, hheap⟩ := h.ents _ (fnd_mem hf)
 have hlen : ∀ l : List α, (flat l enc).length = l.length * sz := fun l => by
  induction l with
  | nil => simp [flat]
  | cons y r ih =>
   simp only [flat, List.flatMap_cons, List.length_append, List.length_cons] at *
   rw [ih, henc, Nat.add_mul]; omega
 refine h.weak hf (fun _ => rfl) (fun g hg => hg) (Nat.zero_le _) ⟨henc, fun g' hg' => ?_, ?_⟩ trivial
 ·simp only [hv, vblk] at hg'; cases hg'; exact hok
 refine ⟨hlen li, .inr ⟨g, li.length, cellsV n cs, by rw [hv, hm], Nat.zero_le _, hheap, Nat.le_refl _, by rw [← hm]; exact hmx, ?_, ?_⟩⟩
 ·simp only [cellsV, List.size_toArray, List.length_map]
  have := congrArg List.length (hcs n)
  rw [List.length_map, hlen] at this
  exact this
 simp only [cellsV]
 rw [hcs n, List.take_of_length_le (by rw [hlen]; exact Nat.le_refl _)]
theorem LITSL (id : Nat) (e : TypeId) (m sz : Nat) (cs : List AC) {α : Type} (li : List α) (enc : α → List Value) (z : α) (hf : fnd s.hp id = some (.lit e m cs)) (hm : m = li.length) (henc : ∀ y, (enc y).length = sz) (hcs : ∀ n, cs.map (AC.c n) = flat li enc)
  (hK : WPO P cx ops l { s with hp := rep s.hp id (.sl .own e sz li enc z) } Q) : WPO P cx ops l s Q := fun n a w hs => by
 refine hK n a w (env_hp hs ⟨Nat.le_refl _, fun i _ e' he' => ?_⟩ (lit_sl hs.heap hf hm henc hcs))
 by_cases hi : i = id
 ·subst hi
  have : fnd (rep s.hp i (.sl .own e sz li enc z)) i = some _ := fnd_rep_eq hf
  rw [this] at he'
  cases he'
  exact ⟨_, hf, Nat.zero_le _⟩
 exact ⟨e', by rw [← fnd_rep_ne (e := .sl .own e sz li enc z) hi]; exact he', Nat.le_refl _⟩
def appA (s : AS) : List Oper → Option (AV × AV × TypeId × Option Tmp)
 | o :: _ => match o.op, o.guard with
  | .call c, none => match c.callee, c.args.toList, c.argTypes.toList with
   | .builtin .append, [x, y], [t, t'] => match ev s [] x, ev s [] y with
    | some u, some v => bif Nat.beq t t' then some (u, v, t, o.dst) else none
    | _, _ => none
   | _, _, _ => none
  | _, _ => none
 | [] => none
def BaseOk (s : AS) (b : AV) (e : TypeId) (sz : Nat) {α : Type} (li : List α) (enc : α → List Value) (z : α) : Prop :=
 (b = .s (.v (.slice none 0 0)) ∧ li = []) ∨ (∃ id, b = .s (.ref id) ∧ fnd s.hp id = some (.sl .own e sz li enc z)) ∨ (∃ id, b = .s (.ref id) ∧ fnd s.hp id = some (.sl .full e sz li enc z))
def SrcOk (s : AS) (b : AV) (e : TypeId) (sz : Nat) {α : Type} (li : List α) (enc : α → List Value) (z : α) : Prop :=
 (∃ id m cs, b = .s (.ref id) ∧ fnd s.hp id = some (.lit e m cs) ∧ m = li.length ∧ ∀ n, cs.map (AC.c n) = flat li enc) ∨ (∃ id k, b = .s (.ref id) ∧ fnd s.hp id = some (.sl k e sz li enc z) ∧ 0 < li.length)
def rem : List (Nat × HE) → Nat → List (Nat × HE)
 | [], _ => []
 | x :: r, id => bif Nat.beq x.1 id then rem r id else x :: rem r id
theorem rem_sub (l : List (Nat × HE)) (id : Nat) : List.Sublist (rem l id) l := by
 induction l with
 | nil => exact List.Sublist.slnil
 | cons x r ih =>
  simp only [rem]
  rcases hb : Nat.beq x.1 id with _ | _
  ·exact ih.cons_cons x
  exact ih.cons x
theorem rem_ne {l : List (Nat × HE)} {id : Nat} {x : Nat × HE} (h : x ∈ rem l id) : x.1 ≠ id := by
 induction l with
 | nil => cases h
 | cons y r ih =>
  simp only [rem] at h
  rcases hb : Nat.beq y.1 id with _ | _
  ·rw [hb] at h
   rcases List.mem_cons.1 h with rfl | h
   ·intro e; rw [e, Nat.beq_refl] at hb; cases hb
   exact ih h
  rw [hb] at h; exact ih h
theorem fnd_rem_ne {l : List (Nat × HE)} {id i : Nat} (h : i ≠ id) : fnd (rem l id) i = fnd l i := by
 induction l with
 | nil => rfl
 | cons y r ih =>
  simp only [rem]
  rcases hb : Nat.beq y.1 id with _ | _
  ·simp only [cond_false, fnd, ih]
  have := Nat.eq_of_beq_eq_true hb
  simp only [cond_true]
  rw [ih]
  exact (fnd_cons_ne (by omega)).symm
theorem fnd_rem_eq (l : List (Nat × HE)) (id : Nat) : fnd (rem l id) id = none := fnd_ne fun x hx => rem_ne hx
theorem rem_more (s : AS) (id : Nat) : More s { s with hp := rem s.hp id } := ⟨Nat.le_refl _, fun i _ e he => by
 by_cases hi : i = id
 ·subst hi
  have : fnd (rem s.hp i) i = some e := he
  rw [fnd_rem_eq] at this; cases this
 exact ⟨e, by rw [← fnd_rem_ne hi]; exact he, Nat.le_refl _⟩⟩
theorem HSat.rem {cx : Cx} {n : Vn} {s : AS} {w : World} (h : HSat cx n s w) (id : Nat) : HSat cx n { s with hp := rem s.hp id } w := by
 have hm : ∀ x ∈ Eng.rem s.hp id, x ∈ s.hp := fun x hx => (rem_sub s.hp id).subset hx
 exact ⟨h.fr, h.ini, h.inx, h.one, fun x hx => h.ents x (hm x hx), fun x hx => HE.ok_more (h.oks x (hm x hx)) (rem_more s id), h.sep.sublist (rem_sub s.hp id), fun x hx => h.lt x (hm x hx), fun x hx => h.ids x (hm x hx)⟩
def kill (s : AS) : AV → AS
 | .s (.ref id) => match fnd s.hp id with
  | some (.sl .own ..) => { s with hp := rem s.hp id }
  | _ => s
 | _ => s
def appP (s : AS) (b : AV) (d : Option Tmp) (e : TypeId) (sz : Nat) {α : Type} (li : List α) (enc : α → List Value) (z : α) : Option AS :=
 ((kill s b).add (.sl .own e sz li enc z)).put d [] (.s (.ref s.nx))
theorem kill_nx (b : AV) : (kill s b).nx = s.nx := by
 unfold kill
 split
 ·split <;> rfl
 rfl
theorem flat_append {α : Type} (a b : List α) (enc : α → List Value) : flat (a ++ b) enc = flat a enc ++ flat b enc := by simp [flat]
theorem flat_len {α : Type} {enc : α → List Value} {sz : Nat} (henc : ∀ y, (enc y).length = sz) (l : List α) : (flat l enc).length = l.length * sz := by
 induction l with
 | nil => simp [flat]
 | cons y r ih =>
  simp only [flat, List.flatMap_cons, List.length_append, List.length_cons] at *
  rw [ih, henc, Nat.add_mul]; omega
theorem flat_get {α : Type} {enc : α → List Value} {sz : Nat} (henc : ∀ y, (enc y).length = sz) (z : α) (l : List α) (j o : Nat) (hj : j < l.length) (ho : o < sz) : (flat l enc)[j * sz + o]? = some ((enc (l.getD j z)).getD o undef) := by
 induction l generalizing j with
 | nil => simp at hj
 | cons y r ih =>
  cases j with
  | zero =>
   simp only [flat, List.flatMap_cons, Nat.zero_mul, Nat.zero_add]
   rw [List.getElem?_append_left (by rw [henc]; exact ho)]
   simp [List.getD, List.getElem?_eq_getElem (show o < (enc y).length by rw [henc]; exact ho)]
  | succ j =>
   simp only [flat, List.flatMap_cons]
   rw [List.getElem?_append_right (by rw [henc, Nat.add_mul]; omega)]
   have e2 : (j + 1) * sz + o - (enc y).length = j * sz + o := by rw [henc, Nat.add_mul]; omega
   rw [e2]
   have := ih j (by simpa using hj)
   simpa [flat, List.getD] using this
theorem src_cells {n : Vn} {w : World} (h : HSat cx n s w) {b : AV} {e : TypeId} {sz : Nat} {α : Type} {li : List α} {enc : α → List Value} {z : α} (hsz : 0 < sz) (henc : ∀ y, (enc y).length = sz) (hs : SrcOk s b e sz li enc z) :
  ∃ ad c, b.c n = .slice (some ad) li.length c ∧ ∀ j u, (flat li enc)[j]? = some u → w.cell? (ad.add j) = some u := by
 rcases hs with ⟨id, m, cs, rfl, hf, hm, hcs⟩ | ⟨id, k, rfl, hf, hp⟩
 ·obtain ⟨g, hv, hok, hmx, hheap⟩ := h.ents _ (fnd_mem hf)
  refine ⟨⟨g, 0, none⟩, m, by simp only [AV.c, AC.c, hv, hm], fun j u hu => ?_⟩
  rw [add_pl, Nat.zero_add, cell_of_row w g _ _ _ _ hheap, ← hu, ← hcs n]
  simp [cellsV]
 have hr := h.reads hf
 obtain ⟨A, c, hv, _, _, h4⟩ := hr
 obtain ⟨ad, rfl, hc⟩ := h4 hp
 refine ⟨ad, c, by simp only [AV.c, AC.c, hv], fun j u hu => ?_⟩
 have hjl : j < li.length * sz := by
  have := (List.getElem?_eq_some_iff.1 hu).1
  rwa [flat_len henc] at this
 have hj1 : j / sz < li.length := (Nat.div_lt_iff_lt_mul hsz).2 hjl
 have hj2 : j % sz < sz := Nat.mod_lt _ hsz
 have hje : j / sz * sz + j % sz = j := by rw [Nat.mul_comm]; exact Nat.div_add_mod j sz
 have h1 := hc _ hj1 _ hj2
 have h2 := flat_get henc z li _ _ hj1 hj2
 rw [hje] at h1 h2
 rw [h1, ← h2, hu]
theorem APP (hT : TTok P tt) (b src : AV) (t e : TypeId) (d : Option Tmp) (sz : Nat) {α : Type} (li xs : List α) (enc : α → List Value) (z : α) (h : appA s l = some (b, src, t, d)) (ht : (isSlK tt t e && isSz tt e sz && Nat.ble 1 sz) = true)
  (hzs : (tyL tt e).map (fun i => (avOf i.zero).cells.length) = some sz) (hp : (appP s b d e sz (li ++ xs) enc z).isSome = true) (hb : BaseOk s b e sz li enc z) (hsrc : SrcOk s src e sz xs enc z) (hx : xs ≠ []) (henc : ∀ y, (enc y).length = sz) (h1 : ∀ y, ∀ v ∈ enc y, v.oneCell' = true)
  (hroom : ∀ i, tyL tt e = some i → (li.length + xs.length) * i.bytes ≤ 140737488355328 ∧ li.length + xs.length ≤ 9223372036854775807)
  (hK : WPO P cx ops l.tail ((appP s b d e sz (li ++ xs) enc z).getD s) Q) : WPO P cx ops l s Q := by
 obtain ⟨s', hs'⟩ := Option.isSome_iff_exists.1 hp
 rw [hs'] at hK
 simp only [Bool.and_eq_true] at ht
 have hszp := Nat.le_of_ble_eq_true ht.2
 cases l with
 | nil => cases h
 | cons o rest =>
  simp only [appA] at h
  split at h <;> try (cases h; done)
  rename_i c ho hg
  split at h <;> try (cases h; done)
  rename_i x y t1 t2 hc hargs htys
  split at h <;> try (cases h; done)
  rename_i u v hu hv
  rcases hbt : Nat.beq t1 t2 with _ | _
  ·rw [hbt] at h; cases h
  rw [hbt] at h
  simp only [cond_true, Option.some.injEq, Prod.mk.injEq] at h
  obtain ⟨rfl, rfl, rfl, rfl⟩ := h
  have htt := Nat.eq_of_beq_eq_true hbt
  subst htt
  intro n a w hs
  have hw : Region.wanted o (yielded ops a.tmps) = true := by simp [Region.wanted, hg]
  have hH : Holds a [] := fun x hx => by cases hx
  obtain ⟨tti, htt, htd⟩ := Option.map_eq_some_iff.1 (isSlK_spec ht.1.1)
  obtain ⟨ei, hee, hes⟩ := Option.map_eq_some_iff.1 (isSz_spec ht.1.2)
  obtain ⟨F⟩ := hT.get htt
  obtain ⟨G⟩ := hT.get hee
  have hd : F.desc = .slice e := by
   have := F.td
   rw [htd] at this
   cases hd : F.desc <;> rw [hd] at this <;> simp only [tdOf] at this <;> first
    | (cases this; done)
    | (injection this with h; rw [h])
  obtain ⟨e1, _⟩ := ev_sound hs.env hH hu
  obtain ⟨e2, _⟩ := ev_sound hs.env hH hv
  obtain ⟨ad, cp, hsv, hsc⟩ := src_cells hs.heap hszp henc hsrc
  obtain ⟨hr1, hr2⟩ := hroom ei hee
  have hzsz : ei.zero.cells.size = sz := by
   rw [zero_cells n]
   obtain ⟨i2, hi2, hz2⟩ := Option.map_eq_some_iff.1 hzs
   rw [hee] at hi2; cases hi2
   simpa [cellsV] using hz2
  have hop : ∀ bv sv : Value, a.eval x = bv → a.eval y = sv → ∀ v' w', (Builtin.append_ #[t1, t1] o.type #[bv, sv]).run P w = .ok v' w' → (execOp a.eval o).run P w = .ok (.value v') w' := fun bv sv hbv hsv v' w' hr => by
   have hargs' : c.args.map a.eval = #[bv, sv] := by
    apply Array.ext'
    simp [hargs, hbv, hsv]
   have htys' : c.argTypes = #[t1, t1] := by
    apply Array.ext'
    simpa using htys
   unfold execOp
   rw [ho]
   simp only [resolve, hc, hargs', htys', Sem.run_bind, Sem.run_pure, Result.andThen_ok, invoke, builtin, hr]
  have hflen := flat_len henc xs
  have hfold := flat_len henc li
  have hxs1 : ∀ u ∈ flat xs enc, u.oneCell' = true := fun u hu => by
   obtain ⟨y, _, hy⟩ := List.mem_flatMap.1 hu
   exact h1 y u hy
  have hxl : 0 < xs.length := List.length_pos_iff.2 hx
  have hlow : ∀ {w : World} {b : Nat} {v : Value} {k : Nat} {ys : List Value}, w.ownsRow b e sz v k ys → w.ownsRow 0 e sz v k ys := fun h => ⟨h.1, h.2.imp (fun h => h) fun ⟨g, cap, cur, h1, h2, h3⟩ => ⟨g, cap, cur, h1, Nat.zero_le _, h3⟩⟩
  have hone : ∀ {w : World} {b : Nat} {v : Value} {k : Nat} {ys : List Value}, w.ownsRow b e sz v k ys → v.oneCell' = true ∧ v.ownBlock = vblk v := fun h => by
   rcases h.2 with ⟨rfl, _⟩ | ⟨g, cap, cur, rfl, _⟩ <;> exact ⟨rfl, rfl⟩
  rw [hsv] at e2
  -- a new row, the old one left alone
  have hfresh : ∀ v' w', (Builtin.append_ #[t1, t1] o.type #[u.c n, .slice (some ad) xs.length cp]).run P w = .ok v' w' → w'.ownsRow w.heap.size e sz v' (li.length + xs.length) (flat li enc ++ flat xs enc) → w.grownBy w' none → kill s u = s → wpList P ops (Post cx Q) (o :: rest) a w := by
   intro v' w' hrun how hgr hkill
   have hbel : Below w.heap.size w w' := ⟨hgr.os, hgr.tape, hgr.output, hgr.size, fun k hk => hgr.block k hk (by simp)⟩
   obtain ⟨ho1, ho2⟩ := hone how
   have hlt := how.lt
   rw [ho2] at hlt
   have hst : Sat cx (upd n s.nx v') (s.add (.sl .own e sz (li ++ xs) enc z)) a w' := by
    refine env_add hs (upd_lt _ _ _) (hs.heap.add hbel ho1 ⟨henc, fun g hg => hs.heap.fr.news g (Nat.le_trans hs.heap.fr.size (hlt g hg).1), ?_⟩ trivial (fun g hg => (hlt g hg).2) (fun g hg => .inl (hlt g hg).1))
    rw [List.length_append, flat_append]
    exact hlow how
   simp only [appP, hkill] at hs'
   exact wp_value hw (hop _ _ e1 e2 _ _ hrun) (hK _ _ _ (put_sat hst hs' (fun _ => ⟨by simp only [AV.c, AC.c, upd_same], Nat.lt_succ_self _⟩) (fun hn => absurd hH hn)))
  rcases hb with ⟨rfl, rfl⟩ | ⟨id, rfl, hf⟩ | ⟨id, rfl, hf⟩
  ·obtain ⟨v', w', hrun, how, hgr, _⟩ := run_append_own (P := P) w w.heap.size t1 o.type e G.info ei.zero sz ei.bytes (by rw [F.hdesc, hd]) G.hinfo G.zero (by rw [G.size, hes]) G.bytes hzsz hszp (.slice none 0 0) 0 [] (World.ownsRow_nil w _ e sz) ad xs.length cp (flat xs enc) hflen hsc hxs1 (by simp only [maxLen]; omega) (by simpa using hr1) (Nat.le_refl _)
   exact hfresh v' w' hrun (by simpa [flat] using how) hgr rfl
  ·obtain ⟨h1', hokg, hown⟩ := hs.heap.ents _ (fnd_mem hf)
   obtain ⟨v', w', hrun, how, hgr, _, hat⟩ := run_append_own_at (P := P) w 0 t1 o.type e G.info ei.zero sz ei.bytes (by rw [F.hdesc, hd]) G.hinfo G.zero (by rw [G.size, hes]) G.bytes hzsz hszp (n id) li.length (flat li enc) hown ad xs.length cp (flat xs enc) hflen hsc hxs1 (by simp only [maxLen]; omega) hr1 (Nat.zero_le _)
   obtain ⟨ho1, ho2⟩ := hone how
   obtain ⟨_, ho3⟩ := hone hown
   have hlt := how.lt
   rw [ho2] at hlt
   have hs1 : Sat cx n { s with hp := rem s.hp id } a w := env_hp hs (rem_more s id) (hs.heap.rem id)
   have hdis : ∀ x ∈ rem s.hp id, ∀ g, x.2.foot (n x.1) g → vblk (n id) ≠ some g := fun x hx g hg hv => by
    have hsym : ∀ (x y : Nat × HE), ((x.2.mut = true ∨ y.2.mut = true) → ∀ g, x.2.foot (n x.1) g → ¬ y.2.foot (n y.1) g) → ((y.2.mut = true ∨ x.2.mut = true) → ∀ g, y.2.foot (n y.1) g → ¬ x.2.foot (n x.1) g) :=
     fun x y h hm g h1 h2 => h hm.symm g h2 h1
    exact pw_mem hsym hs.heap.sep ((rem_sub s.hp id).subset hx) (fnd_mem hf) (fun e => rem_ne hx (by rw [e])) (.inr rfl) g hg hv
   have hmv : HSat cx n { s with hp := rem s.hp id } w' := hs1.heap.move (hs.heap.fr.grown hgr (fun g hg => hokg g (by rw [← ho3]; exact hg))) hgr.size (fun x hx g hg => hgr.block g (hs1.heap.lt x hx g hg) (fun e => hdis x hx g hg (by rw [← ho3]; exact e.symm)))
   have hst0 : Sat cx n { s with hp := rem s.hp id } a w' := ⟨hmv, hs1.size, hs1.env, hs1.defers⟩
   have hst : Sat cx (upd n s.nx v') (AS.add { s with hp := rem s.hp id } (.sl .own e sz (li ++ xs) enc z)) a w' := by
    refine env_add hst0 (upd_lt _ _ _) (hmv.add (Below.refl _ _) ho1 ⟨henc, fun g hg => ?_, ?_⟩ trivial (fun g hg => (hlt g hg).2) (fun g hg => .inr fun x hx _ hxg => ?_))
    ·rcases hat with hat | hat
     ·exact hokg g (by rw [← ho3, ← hat, ho2]; exact hg)
     rw [ho2, hg] at hat; cases hat; exact hs.heap.fr.news _ hs.heap.fr.size
    ·rw [List.length_append, flat_append]; exact how
    rcases hat with hat | hat
    ·exact hdis x hx g hxg (by rw [← ho3, ← hat, ho2]; exact hg)
    rw [ho2] at hat
    simp only [HE.foot] at hg
    rw [hg] at hat; cases hat
    exact absurd (hs1.heap.lt x hx _ hxg) (Nat.lt_irrefl _)
   simp only [appP, kill, hf] at hs'
   exact wp_value hw (hop _ _ e1 e2 _ _ hrun) (hK _ _ _ (put_sat hst hs' (fun _ => ⟨by simp only [AV.c, AC.c, upd_same], Nat.lt_succ_self _⟩) (fun hn => absurd hH hn)))
  obtain ⟨h1', hrd, A, hv⟩ := hs.heap.ents _ (fnd_mem hf)
  have hkill : kill s (.s (.ref id)) = s := by simp only [kill, hf]
  have hu' : (AV.s (AC.ref id)).c n = .slice A li.length li.length := hv
  obtain ⟨A', c', hv', _, _, hA⟩ := hrd
  simp only at hv hv'
  rw [hv] at hv'
  cases hv'
  cases A with
  | none =>
   have hli : li = [] := by
    rcases li with _ | ⟨y, r⟩
    ·rfl
    obtain ⟨ad, h, _⟩ := hA (by simp); cases h
   subst hli
   obtain ⟨v', w', hrun, how, hgr, _⟩ := run_append_own (P := P) w w.heap.size t1 o.type e G.info ei.zero sz ei.bytes (by rw [F.hdesc, hd]) G.hinfo G.zero (by rw [G.size, hes]) G.bytes hzsz hszp (.slice none 0 0) 0 [] (World.ownsRow_nil w _ e sz) ad xs.length cp (flat xs enc) hflen hsc hxs1 (by simp only [maxLen]; omega) (by simpa using hr1) (Nat.le_refl _)
   exact hfresh v' w' (by rw [hu']; exact hrun) (by simpa [flat] using how) hgr hkill
  | some b =>
   obtain ⟨v', w', hrun, how, hgr⟩ := run_append_arg_grows (P := P) w t1 o.type e G.info ei.zero sz ei.bytes (by rw [F.hdesc, hd]) G.hinfo G.zero (by rw [G.size, hes]) G.bytes hzsz hszp b li.length li.length (flat li enc) hfold (fun j u hu => by
    have hjl : j < li.length * sz := by
     have := (List.getElem?_eq_some_iff.1 hu).1
     rwa [hfold] at this
    have hj1 : j / sz < li.length := (Nat.div_lt_iff_lt_mul hszp).2 hjl
    have hj2 : j % sz < sz := Nat.mod_lt _ hszp
    have hje : j / sz * sz + j % sz = j := by rw [Nat.mul_comm]; exact Nat.div_add_mod j sz
    obtain ⟨ad', had, hc⟩ := hA (Nat.lt_of_le_of_lt (Nat.zero_le _) hj1)
    cases had
    have h1 := hc _ hj1 _ hj2
    have h2 := flat_get henc z li _ _ hj1 hj2
    rw [hje] at h1 h2
    rw [h1, ← h2, hu]) ad xs.length cp (flat xs enc) hflen hsc (by omega) (by simp only [maxLen]; omega) hr1
   exact hfresh v' w' (by rw [hu']; exact hrun) how hgr hkill
end
def arrB (m : Nat) (f : Nat → Bool) : List AC := (List.range m).map fun i => .bool (f i)
def arrI (m : Nat) (f : Nat → Int) : List AC := (List.range m).map fun i => .int .i64 (f i)
theorem arrB_get {m : Nat} {f : Nat → Bool} {j : Nat} (h : j < m) : (arrB m f)[j]? = some (.bool (f j)) := by simp [arrB, h]
theorem arrB_set {m : Nat} {f : Nat → Bool} {j : Nat} {b : Bool} (h : j < m) : arrB m (fun i => if i = j then b else f i) = (arrB m f).set j (.bool b) := by
 apply List.ext_getElem
 ·simp [arrB]
 intro i h1 h2
 simp only [arrB, List.length_map, List.length_range] at h1
 simp only [arrB, List.getElem_map, List.getElem_range, List.getElem_set]
 by_cases e : i = j
 ·subst e; simp
 rw [if_neg e, if_neg (fun h => e h.symm)]
def aixA (tt : TT) (ops : Array Oper) (s : AS) : List Oper → Option (AS × Int × Nat × List (Bool × Bool))
 | o :: _ => match o.op, gTag s ops o with
  | .indexAddr t x ix, some T => match ev s T x, ev s T ix with
   | some (.s (.p id off)), some (.s (.int _ i)) => match tyL tt t with
    | some ⟨_, _, _, .array m e⟩ => match tyL tt e with
     | some ei => bif isBox (fnd s.hp id) then (s.put o.dst T (.s (.pi id i ei.size off))).map fun s' => (s', i, m, tagL s T) else none
     | none => none
    | _ => none
   | _, _ => none
  | _, _ => none
 | [] => none
section
variable {P : Program} {tt : TT} {cx : Cx} {s s' : AS} {Q : Exit → AS → Prop} {ops : Array Oper} {l : List Oper}
theorem aix_sound (hT : TTok P tt) {r : AS × Int × Nat × List (Bool × Bool)} (h : aixA tt ops s l = some r) : ∃ (o : Oper) (rest : List Oper) (T : List (Nat × Bool)) (c : AC), l = o :: rest ∧ gTag s ops o = some T ∧ s.put o.dst T (.s c) = some r.1 ∧ r.2.2.2 = tagL s T ∧
  (0 ≤ r.2.1 ∧ r.2.1 < (r.2.2.1 : Int) → ∀ (cx : Cx) n a w, HSat cx n s w → (∀ x ∈ s.env, EntOk n s a x) → Holds a T → (∀ w1, (execOp a.eval o).run P w1 = .ok (.value ((AV.s c).c n)) w1) ∧ (AV.s c).ok s) := by
 cases l with
 | nil => cases h
 | cons o rest =>
  simp only [aixA] at h
  split at h <;> try (cases h; done)
  rename_i t x ix T ho hg
  split at h <;> try (cases h; done)
  rename_i id off k i hx hi
  split at h <;> try (cases h; done)
  rename_i z1 b1 zv m e ht
  split at h <;> try (cases h; done)
  rename_i ei hei
  rcases hb : isBox (fnd s.hp id) with _ | _
  ·rw [hb] at h; cases h
  rw [hb] at h
  obtain ⟨s', hs', rfl⟩ := Option.map_eq_some_iff.1 h
  refine ⟨o, rest, T, _, rfl, hg, hs', rfl, fun h0 cx n a w hh henv hH => ?_⟩
  obtain ⟨F⟩ := hT.get ht
  obtain ⟨G⟩ := hT.get hei
  have hd : F.desc = .array m e := by
   have := F.td
   cases hd : F.desc <;> rw [hd] at this <;> simp only [tdOf] at this <;> first
    | (cases this; done)
    | (injection this with h1 h2; rw [h1, h2])
  obtain ⟨e1, e3⟩ := ev_sound henv hH hx
  obtain ⟨e2, _⟩ := ev_sound henv hH hi
  obtain ⟨g, hv⟩ := box_addr hh hb
  simp only [AV.c, AC.c, hv, ptrAt] at e1 e2
  refine ⟨fun w1 => ?_, e3⟩
  unfold execOp
  rw [ho]
  simp only at h0
  simp only [Instr.indexAt, e1, e2, asIntOf, Sem.run_bind, Sem.run_pure, Result.andThen_ok, run_underlying F.hdesc, hd, Instr.sureAddr]
  rw [if_pos h0]
  simp only [Sem.run_bind, run_sizeOf' G, Result.andThen_ok, Sem.run_pure, AV.c, AC.c, hv, ptrAt, add_pl, Nat.add_comm]
theorem AIX (hT : TTok P tt) (i : Int) (m : Nat) (G : List (Bool × Bool)) (h : (aixA tt ops s l).map (·.2) = some (i, m, G)) (h0 : AllEq G → 0 ≤ i ∧ i < (m : Int)) (hK : WPO P cx ops l.tail (((aixA tt ops s l).map (·.1)).getD s) Q) : WPO P cx ops l s Q := by
 obtain ⟨⟨s', i', m', G'⟩, hr, he⟩ := Option.map_eq_some_iff.1 h
 simp only [Prod.mk.injEq] at he
 obtain ⟨rfl, rfl, rfl⟩ := he
 obtain ⟨o, rest, T, c, rfl, hg, hs', hG, hrun⟩ := aix_sound (P := P) hT hr
 simp only at hG hs' hrun
 rw [hr] at hK
 exact WPO_val hg hs' (fun hp n a w hh henv hH => (fun h => ⟨h.1 w, h.2⟩) (hrun (h0 (by rw [hG]; exact tagP_all hp)) cx n a w hh henv hH)) hK
theorem QAIX (hT : TTok P tt) (i : Int) (m : Nat) (G : List (Bool × Bool)) (h : (aixA tt ops s l).map (·.2) = some (i, m, G)) (h0 : AllEq G → 0 ≤ i ∧ i < (m : Int)) (hK : WPQ P cx ops l.tail (((aixA tt ops s l).map (·.1)).getD s) Q) : WPQ P cx ops l s Q := by
 obtain ⟨⟨s', i', m', G'⟩, hr, he⟩ := Option.map_eq_some_iff.1 h
 simp only [Prod.mk.injEq] at he
 obtain ⟨rfl, rfl, rfl⟩ := he
 obtain ⟨o, rest, T, c, rfl, hg, hs', hG, hrun⟩ := aix_sound (P := P) hT hr
 simp only at hG hs' hrun
 rw [hr] at hK
 exact WPQ_op hg hs' (fun hp n a w hh henv hH => (fun h => ⟨h.1 w, h.2⟩) (hrun (h0 (by rw [hG]; exact tagP_all hp)) cx n a w hh henv hH)) hK
def ardA (tt : TT) (ops : Array Oper) (s : AS) : List Oper → Option (Nat × Int × Nat × Nat × List (Bool × Bool) × Option Tmp × List (Nat × Bool))
 | o :: _ => match o.op, gTag s ops o with
  | .load t x, some T => match ev s T x, tyL tt t with
   | some (.s (.pi id i sz off)), some ti => bif ti.d.ag then none else some (id, i, sz, off, tagL s T, o.dst, T)
   | _, _ => none
  | _, _ => none
 | [] => none
def ardP (tt : TT) (ops : Array Oper) (s : AS) (l : List Oper) (c : AC) : Option AS :=
 match ardA tt ops s l with
 | some (_, _, _, _, _, d, T) => s.put d T (.s c)
 | none => none
theorem ard_sound (hT : TTok P tt) {id sz off : Nat} {i : Int} {G : List (Bool × Bool)} {d : Option Tmp} {T : List (Nat × Bool)} (h : ardA tt ops s l = some (id, i, sz, off, G, d, T)) {ty : TypeId} {cs : List AC} (hf : fnd s.hp id = some (.box ty cs)) : ∃ (o : Oper) (rest : List Oper), l = o :: rest ∧ gTag s ops o = some T ∧ d = o.dst ∧ G = tagL s T ∧
  (∀ c, cs[i.toNat * sz + off]? = some c → ∀ n a w, HSat cx n s w → (∀ x ∈ s.env, EntOk n s a x) → Holds a T → (execOp a.eval o).run P w = .ok (.value ((AV.s c).c n)) w ∧ (AV.s c).ok s) := by
 cases l with
 | nil => cases h
 | cons o rest =>
  simp only [ardA] at h
  split at h <;> try (cases h; done)
  rename_i t x T' ho hg
  split at h <;> try (cases h; done)
  rename_i id' i' sz' off' ti hx hti
  rcases hag : ti.d.ag with _ | _
  ·rw [hag] at h
   simp only [cond_false, Option.some.injEq, Prod.mk.injEq] at h
   obtain ⟨rfl, rfl, rfl, rfl, rfl, rfl, rfl⟩ := h
   refine ⟨o, rest, rfl, hg, rfl, rfl, fun c hc n a w hh henv hH => ?_⟩
   obtain ⟨F⟩ := hT.get hti
   obtain ⟨g, hv, _, hheap⟩ := hh.ents _ (fnd_mem hf)
   obtain ⟨e1, _⟩ := ev_sound henv hH hx
   simp only [AV.c, AC.c, hv, ptrAt] at e1
   refine ⟨?_, hh.oks _ (fnd_mem hf) c (List.mem_of_getElem? hc)⟩
   unfold execOp
   rw [ho]
   have hcell : w.cell? ⟨g, i'.toNat * sz' + off', none⟩ = some (c.c n) := by
    rw [cell_of_row w g _ _ _ _ hheap]; simp [cellsV, hc]
   have hl : (load (⟨g, i'.toNat * sz' + off', none⟩ : Addr)).run P w = .ok (c.c n) w := by simp [hcell]
   simp only [e1, Instr.loadAt, Instr.sureAddr, Sem.run_bind, Sem.run_pure, Result.andThen_ok, loadVar, run_isAgg' F, hag, Bool.false_eq_true, if_false, hl, AV.c]
  rw [hag] at h; cases h
theorem ARD (hT : TTok P tt) (id : Nat) (i : Int) (sz off : Nat) (G : List (Bool × Bool)) (ty : TypeId) (cs : List AC) (c : AC) (h : (ardA tt ops s l).map (fun z => (z.1, z.2.1, z.2.2.1, z.2.2.2.1, z.2.2.2.2.1)) = some (id, i, sz, off, G)) (hf : fnd s.hp id = some (.box ty cs)) (hp : (ardP tt ops s l c).isSome = true)
  (hc : AllEq G → cs[i.toNat * sz + off]? = some c) (hK : WPO P cx ops l.tail ((ardP tt ops s l c).getD s) Q) : WPO P cx ops l s Q := by
 obtain ⟨⟨id', i', sz', off', G', d, T⟩, hr, he⟩ := Option.map_eq_some_iff.1 h
 simp only [Prod.mk.injEq] at he
 obtain ⟨rfl, rfl, rfl, rfl, rfl⟩ := he
 obtain ⟨o, rest, rfl, hg, rfl, rfl, hrun⟩ := ard_sound (cx := cx) hT hr hf
 obtain ⟨s', hs'⟩ := Option.isSome_iff_exists.1 hp
 rw [hs'] at hK
 simp only [ardP, hr] at hs'
 exact WPO_val hg hs' (fun hp => hrun c (hc (tagP_all hp))) hK
theorem QARD (hT : TTok P tt) (id : Nat) (i : Int) (sz off : Nat) (G : List (Bool × Bool)) (ty : TypeId) (cs : List AC) (c : AC) (h : (ardA tt ops s l).map (fun z => (z.1, z.2.1, z.2.2.1, z.2.2.2.1, z.2.2.2.2.1)) = some (id, i, sz, off, G)) (hf : fnd s.hp id = some (.box ty cs)) (hp : (ardP tt ops s l c).isSome = true)
  (hc : AllEq G → cs[i.toNat * sz + off]? = some c) (hK : WPQ P cx ops l.tail ((ardP tt ops s l c).getD s) Q) : WPQ P cx ops l s Q := by
 obtain ⟨⟨id', i', sz', off', G', d, T⟩, hr, he⟩ := Option.map_eq_some_iff.1 h
 simp only [Prod.mk.injEq] at he
 obtain ⟨rfl, rfl, rfl, rfl, rfl⟩ := he
 obtain ⟨o, rest, rfl, hg, rfl, rfl, hrun⟩ := ard_sound (cx := cx) hT hr hf
 obtain ⟨s', hs'⟩ := Option.isSome_iff_exists.1 hp
 rw [hs'] at hK
 simp only [ardP, hr] at hs'
 exact WPQ_op hg hs' (fun hp => hrun c (hc (tagP_all hp))) hK
def astA (s : AS) : List Oper → Option (Nat × Int × Nat × Nat × AC × TypeId)
 | o :: _ => match o.op, o.guard, o.dst with
  | .store t x v, none, none => match ev s [] x, ev s [] v with
   | some (.s (.pi id i sz off)), some (.s c) => bif c.one then some (id, i, sz, off, c, t) else none
   | _, _ => none
  | _, _, _ => none
 | [] => none
theorem AST (hT : TTok P tt) (id : Nat) (i : Int) (sz off : Nat) (ty t : TypeId) (cs cs' : List AC) (c : AC) (h : astA s l = some (id, i, sz, off, c, t)) (hf : fnd s.hp id = some (.box ty cs))
  (hi : i.toNat * sz + off < cs.length) (hcs : cs' = cs.set (i.toNat * sz + off) c) (hsz1 : (tyL tt t).map (·.size) = some 1) (hK : WPO P cx ops l.tail { s with hp := rep s.hp id (.box ty cs') } Q) : WPO P cx ops l s Q := by
 cases l with
 | nil => cases h
 | cons o rest =>
  simp only [astA] at h
  split at h <;> try (cases h; done)
  rename_i t0 x v ho hg hd
  split at h <;> try (cases h; done)
  rename_i id' i' sz' off' c' hx hv
  rcases hone : c'.one with _ | _
  ·rw [hone] at h; cases h
  rw [hone] at h
  simp only [cond_true, Option.some.injEq, Prod.mk.injEq] at h
  obtain ⟨rfl, rfl, rfl, rfl, rfl, rfl⟩ := h
  obtain ⟨ti, hti, htz⟩ := Option.map_eq_some_iff.1 hsz1
  obtain ⟨F⟩ := hT.get hti
  intro n a w hs
  have hw : Region.wanted o (yielded ops a.tmps) = true := by simp [Region.wanted, hg]
  have hH : Holds a [] := fun x hx => by cases hx
  obtain ⟨e1, _⟩ := ev_sound hs.env hH hx
  obtain ⟨e3, e4⟩ := ev_sound hs.env hH hv
  obtain ⟨g, hgv, hok, hheap⟩ := hs.heap.ents _ (fnd_mem hf)
  have hcsok := hs.heap.oks _ (fnd_mem hf)
  have hone' := one_c (n := n) hs.heap.one hone
  have hrun := run_storeCells_at P g (i'.toNat * sz' + off') ty [c'.c n] 0 (cellsV n cs) w hheap (by simp [cellsV]; omega) (by simp [hone'])
  have hcells : cellsV n cs' = ((cellsV n cs).toList.take (i'.toNat * sz' + off' + 0) ++ [c'.c n] ++ (cellsV n cs).toList.drop (i'.toNat * sz' + off' + 0 + [c'.c n].length)).toArray := by
   subst hcs
   unfold cellsV
   congr 1
   simp only [List.map_set, Nat.add_zero, List.length_singleton]
   rw [List.set_eq_take_append_cons_drop, if_pos (by simpa using hi)]
   simp
  rw [← hcells] at hrun
  have hok' : HE.ok s (.box ty cs') := fun c0 hc0 => by
   subst hcs
   rcases List.mem_or_eq_of_mem_set hc0 with h | h
   ·exact hcsok c0 h
   subst h; exact e4
  have hwr := hs.heap.write (w' := w.setRow g (cellsV n cs')) hf rfl (g := g) (by simp only [HE.foot, hgv, vblk]) (e := .box ty cs') rfl (fun _ => rfl) (Nat.le_refl _) hok
   (fun k hk => setRow_other w g k _ hk) (setRow_size _ _ _) rfl rfl rfl ⟨g, hgv, hok, setRow_heap w g _ _ ty _ hheap⟩ hok'
  have hst : Sat cx n { s with hp := rep s.hp id' (.box ty cs') } a (w.setRow g (cellsV n cs')) := by
   refine env_hp hs ⟨Nat.le_refl _, fun i' _ e' he' => ?_⟩ hwr
   by_cases hid : i' = id'
   ·subst hid
    have : fnd (rep s.hp i' (.box ty cs')) i' = some _ := fnd_rep_eq hf
    rw [this] at he'
    cases he'
    exact ⟨_, hf, Nat.le_refl _⟩
   exact ⟨e', by rw [← fnd_rep_ne (e := .box ty cs') hid]; exact he', Nat.le_refl _⟩
  refine wp_skip1 hw (w' := w.setRow g (cellsV n cs')) ?_ (hK _ _ _ (by rw [hd]; exact hst))
  unfold execOp
  rw [ho]
  have e1' : a.eval x = .pointer (some ⟨g, i'.toNat * sz' + off', none⟩) := by rw [e1]; simp only [AV.c, AC.c, hgv, ptrAt]
  have e3' : a.eval v = c'.c n := e3
  have hcl : (c'.c n).cells = #[c'.c n] := cells_one hone'
  simp only [Instr.storeAt, e1', e3', Instr.sureAddr, Sem.run_bind, Sem.run_pure, Result.andThen_ok, storeVar, run_sizeOf' F, hcl, htz]
  rw [if_neg (by simp)]
  simp only [Sem.run_bind, hrun, Result.andThen_ok, Sem.run_pure]
end
def cxAt (cx : Cx) (n : Vn) (m : Nat) : Cx := ⟨cx.w0, cx.ok, n, m, cx.top⟩
def SubP (hp : List (Nat × HE)) : List (Nat × HE) → Prop
 | [] => True
 | x :: r => fnd hp x.1 = some x.2 ∧ SubP hp r
def uniq : List (Nat × HE) → Bool
 | [] => true
 | x :: r => !(r.any fun y => Nat.beq x.1 y.1) && uniq r
theorem uniq_spec {l : List (Nat × HE)} (h : uniq l = true) : l.Pairwise fun x y => x.1 ≠ y.1 := by
 induction l with
 | nil => exact List.Pairwise.nil
 | cons y r ih =>
  simp only [uniq, Bool.and_eq_true, Bool.not_eq_true'] at h
  refine List.pairwise_cons.2 ⟨fun x hx e => ?_, ih h.2⟩
  have := List.any_eq_false.1 h.1 x hx
  rw [e, Nat.beq_refl] at this; exact this rfl
theorem SubP.all {hp l : List (Nat × HE)} (h : SubP hp l) : ∀ x ∈ l, fnd hp x.1 = some x.2 := by
 induction l with
 | nil => intro x hx; cases hx
 | cons y r ih =>
  intro x hx
  rcases List.mem_cons.1 hx with rfl | hx
  ·exact h.1
  exact ih h.2 x hx
structure Fz (s0 s : AS) : Prop where
 nx : s0.nx ≤ s.nx
 sub : SubP s.hp s0.hp
 un : uniq s0.hp = true
def AS.kept (s : AS) (ids : List Nat) : AS := { s with hp := s.hp.filter fun x => !(ids.any fun i => Nat.beq x.1 i) }
section
variable {P : Program} {tt : TT} {cx : Cx} {s s0 s' : AS} {Q : Exit → AS → Prop} {ops : Array Oper}
theorem Fz.sb (h : Fz s0 s) {id : Nat} {e : HE} (he : fnd s0.hp id = some e) : fnd s.hp id = some e := h.sub.all _ (fnd_mem he)
def PN (cx : Cx) (Q : Exit → AS → Prop) : Exit → Act → World → Prop := fun e a w => e = .normal ∧ Post cx Q e a w
def WPH (P : Program) (cx : Cx) (ops : Array Oper) (s0 : AS) (fuel : Nat) (listed : Array Bool) (s : AS) (Q : Exit → AS → Prop) : Prop :=
 Fz s0 s → ∀ n0, (∀ id, id < cx.m0 → n0 id = cx.n0 id) → cx.m0 ≤ s0.nx → (∀ id, (n0 id).oneCell' = true) → ∀ n a w, Sat (cxAt cx n0 s0.nx) n s a w → HSat (cxAt cx n0 s0.nx) n0 s0 w →
  wpAnyH P .any ops (PN cx Q) (HSat (cxAt cx n0 s0.nx) n0 s0) fuel listed a w
theorem HSat.to {n0 n : Vn} {m : Nat} {w : World} (h : HSat (cxAt cx n0 m) n s w) (h1 : ∀ id, id < cx.m0 → n0 id = cx.n0 id) (h2 : cx.m0 ≤ m) : HSat cx n s w :=
 ⟨h.fr, fun id hid => (h.ini id (Nat.lt_of_lt_of_le hid h2)).trans (h1 id hid), Nat.le_trans h2 h.inx, h.one, h.ents, h.oks, h.sep, h.lt, h.ids⟩
theorem HSat.at {n : Vn} {w : World} (h : HSat cx n s w) : HSat (cxAt cx n s.nx) n s w := ⟨h.fr, fun _ _ => rfl, Nat.le_refl _, h.one, h.ents, h.oks, h.sep, h.lt, h.ids⟩
theorem HE.ok_fz {e : HE} (h : e.ok s) (hs : Fz s0 s) (hn : s0.nx = s.nx) : e.ok s0 := by
 have hc : ∀ c : AC, c.ok s → c.ok s0 := fun c h => by
  cases c with
  | p id o => exact (by rw [hn]; exact h : id < s0.nx)
  | ref id => exact (by rw [hn]; exact h : id < s0.nx)
  | sb id o z l hh m => exact (by rw [hn]; exact h : id < s0.nx)
  | pi id i z o => exact (by rw [hn]; exact h : id < s0.nx)
  | ep id i z o => exact ⟨by rw [hn]; exact h.1, fun e he => h.2 e (hs.sb he)⟩
  | _ => exact h
 have hv : ∀ v : AV, v.ok s → v.ok s0 := fun v h => by
  cases v with
  | s c => exact hc c h
  | g cs => exact fun c hcs => hc c (h c hcs)
  | t vs => exact fun x hx c hcs => hc c (h x hx c hcs)
 cases e with
 | box ty cs => exact fun c hcs => hc c (h c hcs)
 | lit e m cs => exact fun c hcs => hc c (h c hcs)
 | clo f u v => exact ⟨fun x hx => hv x (h.1 x hx), fun x hx => hv x (h.2 x hx)⟩
 | _ => exact h
theorem HSat.less {n0 n : Vn} {w w' : World} (h : HSat (cxAt cx n0 s0.nx) n s w) (hs : Fz s0 s) (h0 : HSat (cxAt cx n0 s0.nx) n0 s0 w') : HSat (cxAt cx n0 s0.nx) n0 s0 w := by
 have hin : ∀ x ∈ s0.hp, x ∈ s.hp := fun x hx => fnd_mem (hs.sub.all x hx)
 have hag : ∀ x ∈ s0.hp, n x.1 = n0 x.1 := fun x hx => h.ini _ (h0.ids x hx)
 refine ⟨h.fr, fun _ _ => rfl, Nat.le_refl _, h0.one, fun x hx => ?_, h0.oks, ?_, fun x hx g hg => h.lt x (hin x hx) g (by rw [hag x hx]; exact hg), h0.ids⟩
 ·rw [← hag x hx]
  exact HE.sat_congr (h0.oks x hx) (fun id hid' => (h.ini id hid').symm) (h.ents x (hin x hx))
 refine (uniq_spec hs.un).imp_of_mem fun {x y} hx hy hne hm' g hg hg' => ?_
 have hsym : ∀ (x y : Nat × HE), ((x.2.mut = true ∨ y.2.mut = true) → ∀ g, x.2.foot (n x.1) g → ¬ y.2.foot (n y.1) g) → ((y.2.mut = true ∨ x.2.mut = true) → ∀ g, y.2.foot (n y.1) g → ¬ x.2.foot (n x.1) g) :=
  fun x y h hm g h1 h2 => h hm.symm g h2 h1
 exact pw_mem hsym h.sep (hin x hx) (hin y hy) (fun e => hne (congrArg (·.1) e)) hm' g (by rw [hag x hx]; exact hg) (by rw [hag y hy]; exact hg')
theorem HSat.kept {n : Vn} {w : World} (h : HSat cx n s w) (ids : List Nat) (hs : Fz (s.kept ids) s) : HSat cx n (s.kept ids) w := by
 have hin : ∀ x ∈ (s.kept ids).hp, x ∈ s.hp := fun x hx => (List.mem_filter.1 hx).1
 refine ⟨h.fr, h.ini, h.inx, h.one, fun x hx => h.ents x (hin x hx), fun x hx => HE.ok_fz (h.oks x (hin x hx)) hs rfl, h.sep.filter _, fun x hx => h.lt x (hin x hx), fun x hx => h.ids x (hin x hx)⟩
theorem Fz.kept (drop : List Nat) (hu : uniq s.hp = true) : Fz (s.kept drop) s := by
 have hall : ∀ (l : List (Nat × HE)), l.Pairwise (fun x y => x.1 ≠ y.1) → ∀ x ∈ l, fnd l x.1 = some x.2 := fun l => by
  induction l with
  | nil => intro _ x hx; cases hx
  | cons y r ih =>
   intro hp x hx
   obtain ⟨p1, p2⟩ := List.pairwise_cons.1 hp
   rcases List.mem_cons.1 hx with rfl | hx
   ·simp only [fnd, Nat.beq_refl, cond_true]
   rw [fnd_cons_ne (p1 x hx)]; exact ih p2 x hx
 have hsub : ∀ (r : List (Nat × HE)), (∀ x ∈ r, x ∈ s.hp) → SubP s.hp r := fun r => by
  induction r with
  | nil => intro _; trivial
  | cons y r ih => intro h; exact ⟨hall _ (uniq_spec hu) y (h y List.mem_cons_self), ih fun x hx => h x (List.mem_cons_of_mem _ hx)⟩
 have hun : ∀ l : List (Nat × HE), l.Pairwise (fun x y => x.1 ≠ y.1) → uniq l = true := fun l => by
  induction l with
  | nil => intro _; rfl
  | cons y r ih =>
   intro hp
   obtain ⟨p1, p2⟩ := List.pairwise_cons.1 hp
   simp only [uniq, Bool.and_eq_true, Bool.not_eq_true']
   refine ⟨List.any_eq_false.2 fun x hx h => p1 x hx (Nat.eq_of_beq_eq_true h), ih p2⟩
 exact ⟨Nat.le_refl _, hsub _ fun x hx => (List.mem_filter.1 hx).1, hun _ ((uniq_spec hu).filter _)⟩
theorem Fz.same (h : Fz s0 s) (h1 : s'.hp = s.hp) (h2 : s'.nx = s.nx) : Fz s0 s' := ⟨by rw [h2]; exact h.nx, by rw [h1]; exact h.sub, h.un⟩
def idsIn (m : Nat) : List (Nat × HE) → Bool
 | [] => true
 | x :: r => Nat.ble m x.1 && idsIn m r
def idsLt (m : Nat) : List (Nat × HE) → Bool
 | [] => true
 | x :: r => Nat.ble (x.1 + 1) m && idsLt m r
theorem Fz.ext (k : Nat) (h : Fz s0 s) (h1 : s'.hp.drop k = s.hp) (h2 : idsIn s.nx (s'.hp.take k) = true) (h3 : Nat.ble s.nx s'.nx = true) (h4 : idsLt s.nx s0.hp = true) : Fz s0 s' := by
 refine ⟨Nat.le_trans h.nx (Nat.le_of_ble_eq_true h3), ?_, h.un⟩
 have hlt : ∀ l : List (Nat × HE), idsLt s.nx l = true → ∀ x ∈ l, x.1 < s.nx := fun l => by
  induction l with
  | nil => intro _ x hx; cases hx
  | cons y r ih =>
   intro h x hx
   simp only [idsLt, Bool.and_eq_true] at h
   rcases List.mem_cons.1 hx with rfl | hx
   ·exact Nat.le_of_ble_eq_true h.1
   exact ih h.2 x hx
 have key : ∀ (l r : List (Nat × HE)) (i : Nat), idsIn s.nx l = true → i < s.nx → fnd (l ++ r) i = fnd r i := fun l r i => by
  induction l with
  | nil => intro _ _; rfl
  | cons x l ih =>
   intro h hi
   simp only [idsIn, Bool.and_eq_true] at h
   have := Nat.le_of_ble_eq_true h.1
   rw [List.cons_append, fnd_cons_ne (by omega), ih h.2 hi]
 have all : ∀ l : List (Nat × HE), SubP s.hp l → (∀ x ∈ l, x.1 < s.nx) → SubP s'.hp l := fun l => by
  induction l with
  | nil => intro _ _; trivial
  | cons y r ih =>
   intro hs hl
   refine ⟨?_, ih hs.2 fun x hx => hl x (List.mem_cons_of_mem _ hx)⟩
   rw [← List.take_append_drop k s'.hp, key _ _ _ h2 (hl y List.mem_cons_self), h1]
   exact hs.1
 exact all _ h.sub (hlt _ h4)
theorem WP_drawH {id : Nat} (drop : List Nat) (hm : P.follows .mixedOrders = true) (hu : uniq s.hp = true)
  (h : WPH P cx ops (s.kept drop) ops.size (Array.replicate ops.size false) s Q) (hd : noDefer ops = true := by kernel_rfl) : WP P cx s (.region id ops true) Q := fun r m ht n a w hs => by
 have h1 : HSat (cxAt cx n s.nx) n s { w with drawn := w.drawn + 1 } := (hs.heap.at).same rfl rfl rfl rfl
 have hfz := Fz.kept (s := s) drop hu
 have h2 := wpAny_of_held _ _ _ _ (h hfz n hs.heap.ini hs.heap.inx hs.heap.one n a _ ⟨h1, hs.size, hs.env, hs.defers⟩ (h1.kept drop hfz))
 exact wpIn_mono (wpIn_region_any hm (wpAny_in hd (fun h => by obtain ⟨_, _, h, _⟩ := h; cases h) _ _ _ _ h2)) fun e a w h => h.2
theorem H_done {fuel : Nat} {listed : Array Bool} (hr : Region.ready .any ops listed = []) (h : Q .normal s) : WPH P cx ops s0 fuel listed s Q := fun _ n0 h1 h2 one n a w hs hS =>
 wpAnyH_done hr ⟨rfl, n, s, h, ⟨hs.heap.to h1 h2, hs.size, hs.env, hs.defers⟩⟩ fuel
def QOp (P : Program) (s : AS) (o : Oper) (T : List (Nat × Bool)) (r : AV) : Prop :=
 tagP s T → ∀ (cx : Cx) n a w, HSat cx n s w → (∀ x ∈ s.env, EntOk n s a x) → Holds a T → (execOp a.eval o).run P w = .ok (.value (r.c n)) w ∧ r.ok s
theorem AC.ok_sub {c : AC} (h : c.ok s) (hs : Fz s0 s) : c.ok { s with hp := s0.hp } := by
 cases c with
 | ep id i sz o => exact ⟨h.1, fun e he => h.2 e (hs.sb he)⟩
 | _ => exact h
theorem AV.ok_sub {v : AV} (h : v.ok s) (hs : Fz s0 s) : v.ok { s with hp := s0.hp } := by
 cases v with
 | s c => exact AC.ok_sub h hs
 | g cs => exact fun c hc => AC.ok_sub (h c hc) hs
 | t vs => exact fun x hx c hc => AC.ok_sub (h x hx c hc) hs
theorem tagP_hp {T : List (Nat × Bool)} {hp : List (Nat × HE)} (h : tagP s T) : tagP { s with hp := hp } T := by
 induction T with
 | nil => trivial
 | cons x r ih => exact ⟨h.1, ih h.2⟩
theorem H_takeq {o : Oper} {T : List (Nat × Bool)} {r : AV} (i : Nat) {fuel : Nat} {listed : Array Bool} (ho : ops[i]? = some o) (hg : gTag s ops o = some T) (hs' : s.put o.dst T r = some s')
  (hq : QOp P { s with hp := s0.hp } o T r) (hvok : tagP s T → r.ok s) (hs : Region.noSelect ops = true) (hf : Region.free .any ops listed i = true) (hr : (Region.ready .any ops listed).contains i = true)
  (hK : WPH P cx ops s0 fuel (listed.setIfInBounds i true) s' Q) : WPH P cx ops s0 (fuel + 1) listed s Q := fun hfz n0 h1 h2 one n a w hst hS => by
 have hfz' : Fz s0 s' := hfz.same (put_same hs').1 (put_same hs').2.1
 have hgt := gTag_sound hst hg
 have henv' : ∀ x ∈ s.env, EntOk n { s with hp := s0.hp } a x := fun x hx => by
  have := hst.env x hx
  exact ⟨this.lt, fun hh => ⟨(this.yes hh).1, AV.ok_sub (this.yes hh).2 hfz⟩, this.no⟩
 have hsem : ∀ w', HSat (cxAt cx n0 s0.nx) n0 s0 w' → HSat (cxAt cx n0 s0.nx) n { s with hp := s0.hp } w' := fun w' hw' => by
  have hag : ∀ x ∈ s0.hp, n0 x.1 = n x.1 := fun x hx => (hst.heap.ini _ (hw'.ids x hx)).symm
  refine ⟨hw'.fr, hst.heap.ini, hst.heap.inx, hst.heap.one, fun x hx => ?_, fun x hx => ?_, ?_, fun x hx g hg => hw'.lt x hx g (by rw [hag x hx]; exact hg), fun x hx => Nat.lt_of_lt_of_le (hw'.ids x hx) hfz.nx⟩
  ·show x.2.sat n cx.ok w' (n x.1)
   rw [← hag x hx]
   exact HE.sat_congr (hw'.oks x hx) (fun id hid => hst.heap.ini id hid) (hw'.ents x hx)
  ·exact HE.ok_more (hw'.oks x hx) ⟨hfz.nx, fun id _ e he => ⟨e, he, Nat.le_refl _⟩⟩
  exact hw'.sep.imp_of_mem fun {x y} hx hy hxy hm g hg => by rw [← hag x hx] at hg; rw [← hag y hy]; exact hxy hm g hg
 have hQp : ∀ c a w, PN cx Q (.panic c) (a.put o.dst (r.c n)) w → PN cx Q (.panic c) a w := fun c a w h => by cases h.1
 have hQu : ∀ c a w, PN cx Q (.panic c) (a.put o.dst undef) w → PN cx Q (.panic c) a w := fun c a w h => by cases h.1
 by_cases hH : Holds a T
 ·have htp := tagP_of hst.env hH
  refine wpAnyH_take (v := r.c n) ho hs hf hr hQp (.inl ⟨hgt.2 hH, fun w' hw' => (hq (tagP_hp htp) _ n a w' (hsem w' hw') henv' hH).1⟩) hS ?_
  exact hK hfz' n0 h1 h2 one n _ w (put_sat hst hs' (fun _ => ⟨rfl, hvok htp⟩) (fun hn => absurd hH hn)) hS
 refine wpAnyH_take (v := undef) ho hs hf hr hQu (.inr ⟨by rcases hb : Region.wanted o (yielded ops a.tmps) with _ | _; rfl; exact absurd (hgt.1 hb) hH, rfl⟩) hS ?_
 exact hK hfz' n0 h1 h2 one n _ w (put_sat hst hs' (fun hH' => absurd hH' hH) (fun _ => rfl)) hS
def takA (tt : TT) (ops : Array Oper) (s0 s : AS) (i : Nat) : Option AS :=
 match ops[i]? with
 | some o => match gTag s ops o with
  | some T => match opv tt { s with hp := s0.hp } T o.op with
   | some v => bif okB s v then s.put o.dst T v else none
   | none => none
  | none => none
 | none => none
def takB (ops : Array Oper) (listed : Array Bool) (i : Nat) : Bool := Region.free .any ops listed i && (Region.ready .any ops listed).contains i
theorem H_take1 (hT : TTok P tt) {i : Nat} {fuel : Nat} {listed : Array Bool} (h : takA tt ops s0 s i = some s') (hs : Region.noSelect ops = true) (hb : takB ops listed i = true)
  (hK : WPH P cx ops s0 fuel (listed.setIfInBounds i true) s' Q) : WPH P cx ops s0 (fuel + 1) listed s Q := by
 unfold takA at h
 split at h <;> try (cases h; done)
 rename_i o ho
 split at h <;> try (cases h; done)
 rename_i T hg
 split at h <;> try (cases h; done)
 rename_i v hv
 rcases hk : okB s v with _ | _ <;> rw [hk] at h <;> try (cases h; done)
 simp only [takB, Bool.and_eq_true] at hb
 exact H_takeq i ho hg h (fun _ cx n a w hh henv hH => opv_sound hT henv hH hh hv) (fun _ => okB_sound hk) hs hb.1 hb.2 hK
def taks (tt : TT) (ops : Array Oper) (s0 : AS) : List Nat → Array Bool → AS → Option (Array Bool × AS)
 | [], l, s => some (l, s)
 | i :: r, l, s => bif takB ops l i then match takA tt ops s0 s i with
  | some s' => taks tt ops s0 r (l.setIfInBounds i true) s'
  | none => none
  else none
theorem H_runs (hT : TTok P tt) (is : List Nat) (hs : Region.noSelect ops = true) {fuel : Nat} : ∀ {listed listed' : Array Bool} {s : AS}, taks tt ops s0 is listed s = some (listed', s') →
  WPH P cx ops s0 fuel listed' s' Q → WPH P cx ops s0 (fuel + is.length) listed s Q := by
 induction is with
 | nil => intro l l' s h hK; simp only [taks] at h; cases h; exact hK
 | cons i r ih =>
  intro l l' s h hK
  simp only [taks] at h
  rcases hb : takB ops l i with _ | _ <;> rw [hb] at h <;> try (cases h; done)
  simp only [cond_true] at h
  split at h
  ·rename_i s1 h1
   exact H_take1 hT h1 hs hb (ih h hK)
  cases h
theorem H_run (hT : TTok P tt) (is : List Nat) {fuel f' : Nat} {listed : Array Bool} (hf : fuel = f' + is.length) (hs : Region.noSelect ops = true) (h : (taks tt ops s0 is listed s).isSome = true)
  (hK : WPH P cx ops s0 f' ((taks tt ops s0 is listed s).getD (listed, s)).1 ((taks tt ops s0 is listed s).getD (listed, s)).2 Q) : WPH P cx ops s0 fuel listed s Q := by
 obtain ⟨⟨l', s'⟩, h'⟩ := Option.isSome_iff_exists.1 h
 rw [h'] at hK
 subst hf
 exact H_runs hT is hs h' hK
theorem wp_mono2 {o : Oper} {a : Act} {w : World} {K K' : Act → World → Prop} {Q Q' : Exit → Act → World → Prop} (h : ∀ a w, K a w → K' a w) (hq : ∀ c a w, ¬ Q (.panic c) a w) (hl : ¬ LetsOut Q)
  (hh : o.wp P a w K Q) : o.wp P a w K' Q' := by
 unfold Oper.wp at *
 generalize (execOp a.eval o).run P w = r at *
 cases r with
 | ok n w' =>
  cases n <;> simp only [Oper.upon] at hh ⊢ <;>
   first
    | exact h _ _ hh
    | exact Calls.mono hh (fun e w'' he => by cases e <;> first | exact h _ _ he | exact absurd he (hq _ _ _) | exact absurd he hl)
    | exact Rows.mono hh (fun _ _ he => h _ _ he)
 | halt x w' => cases x <;> simp only [Oper.upon] at hh ⊢ <;> first | exact hh | exact absurd hh (hq _ _ _)
def opAt (ops : Array Oper) (i : Nat) : List Oper := (ops[i]?).toList
theorem opAt_cons {i : Nat} {o : Oper} {rest : List Oper} (h : opAt ops i = o :: rest) : ops[i]? = some o := by
 unfold opAt at h
 cases ho : ops[i]? with
 | none => rw [ho] at h; cases h
 | some o' => rw [ho] at h; cases h; rfl
theorem H_step (i : Nat) {fuel : Nat} {listed : Array Bool} (hr : Region.ready .any ops listed = [i]) (hi : (opAt ops i).isEmpty = false)
  (h : Fz s0 s → ∀ cx' : Cx, cx'.w0 = cx.w0 → (cx'.ok = cx.ok ∧ (∀ id, id < cx.m0 → cx'.n0 id = cx.n0 id) ∧ cx.m0 ≤ cx'.m0) → WPO P cx' ops (opAt ops i) s (fun e s' => e = .normal ∧ Fz s0 s' ∧ WPH P cx ops s0 fuel (listed.setIfInBounds i true) s' Q)) : WPH P cx ops s0 (fuel + 1) listed s Q := fun hfz n0 h1 h2 one n a w hst hS => by
 obtain ⟨o, ho⟩ : ∃ o, ops[i]? = some o := by
  unfold opAt at hi
  cases ho : ops[i]? with
  | none => rw [ho] at hi; cases hi
  | some o => exact ⟨o, rfl⟩
 have hl1 : opAt ops i = [o] := by unfold opAt; rw [ho]; rfl
 refine wpAnyH_all hr (by simp) fun j hj => ?_
 rw [List.mem_singleton.1 hj]
 have := h hfz (cxAt cx n0 s0.nx) rfl ⟨rfl, h1, h2⟩ n a w hst
 rw [hl1] at this
 unfold wpOp
 rw [ho]
 simp only
 have hk : ∀ a w, Post (cxAt cx n0 s0.nx) (fun e s' => e = .normal ∧ Fz s0 s' ∧ WPH P cx ops s0 fuel (listed.setIfInBounds i true) s' Q) .normal a w →
   (HSat (cxAt cx n0 s0.nx) n0 s0 w ∧ wpAnyH P .any ops (PN cx Q) (HSat (cxAt cx n0 s0.nx) n0 s0) fuel (listed.setIfInBounds i true) a w) := fun a w ⟨n', s', ⟨_, hfz, hw⟩, hs'⟩ => by
  have hS' := hs'.heap.less hfz hS
  exact ⟨hS', hw hfz n0 h1 h2 one n' a w hs' hS'⟩
 have hq : ∀ c a w, ¬ Post (cxAt cx n0 s0.nx) (fun e s' => e = .normal ∧ Fz s0 s' ∧ WPH P cx ops s0 fuel (listed.setIfInBounds i true) s' Q) (.panic c) a w := fun c a w ⟨_, _, h, _⟩ => by cases h.1
 have hl : ¬ LetsOut (Post (cxAt cx n0 s0.nx) (fun e s' => e = .normal ∧ Fz s0 s' ∧ WPH P cx ops s0 fuel (listed.setIfInBounds i true) s' Q)) := fun h => by
  obtain ⟨_, _, _, _, h, _⟩ := h
  cases h.1
 unfold wpList at this
 split
 ·rename_i hw
  rw [if_pos hw] at this
  rcases this with h | h
  ·exact .inl (wp_mono2 (fun a w h => hk a w h) hq hl h)
  exact absurd h.2 hl
 rename_i hw
 rw [if_neg hw] at this
 exact hk _ _ this
theorem H_takef {o : Oper} {T : List (Nat × Bool)} {r : AV} (i : Nat) {fuel : Nat} {listed : Array Bool} (ho : ops[i]? = some o) (hg : gTag s ops o = some T) (hs' : s.put o.dst T r = some s')
  (hq : tagP s T → ∀ (cx : Cx) n a w, HSat cx n s w → (∀ x ∈ s.env, EntOk n s a x) → Holds a T → (∀ w1, (execOp a.eval o).run P w1 = .ok (.value (r.c n)) w1) ∧ r.ok s) (hs : Region.noSelect ops = true) (hb : takB ops listed i = true)
  (hK : WPH P cx ops s0 fuel (listed.setIfInBounds i true) s' Q) : WPH P cx ops s0 (fuel + 1) listed s Q := fun hfz n0 h1 h2 one n a w hst hS => by
 have hfz' : Fz s0 s' := hfz.same (put_same hs').1 (put_same hs').2.1
 simp only [takB, Bool.and_eq_true] at hb
 have hgt := gTag_sound hst hg
 have hQp : ∀ c a w, PN cx Q (.panic c) (a.put o.dst (r.c n)) w → PN cx Q (.panic c) a w := fun c a w h => by cases h.1
 have hQu : ∀ c a w, PN cx Q (.panic c) (a.put o.dst undef) w → PN cx Q (.panic c) a w := fun c a w h => by cases h.1
 by_cases hH : Holds a T
 ·have htp := tagP_of hst.env hH
  obtain ⟨r1, r2⟩ := hq htp _ n a w hst.heap hst.env hH
  refine wpAnyH_take (v := r.c n) ho hs hb.1 hb.2 hQp (.inl ⟨hgt.2 hH, fun w' hw' => r1 w'⟩) hS ?_
  exact hK hfz' n0 h1 h2 one n _ w (put_sat hst hs' (fun _ => ⟨rfl, r2⟩) (fun hn => absurd hH hn)) hS
 refine wpAnyH_take (v := undef) ho hs hb.1 hb.2 hQu (.inr ⟨by rcases hb : Region.wanted o (yielded ops a.tmps) with _ | _; rfl; exact absurd (hgt.1 hb) hH, rfl⟩) hS ?_
 exact hK hfz' n0 h1 h2 one n _ w (put_sat hst hs' (fun hH' => absurd hH' hH) (fun _ => rfl)) hS
theorem H_IX (hT : TTok P tt) (i : Nat) (x : Int) (m : Nat) (G : List (Bool × Bool)) {fuel : Nat} {listed : Array Bool} (h : (idxA tt ops s (opAt ops i)).map (·.2) = some (x, m, G)) (h0 : AllEq G → 0 ≤ x ∧ x < (m : Int)) (hs : Region.noSelect ops = true) (hb : takB ops listed i = true)
  (hK : WPH P cx ops s0 fuel (listed.setIfInBounds i true) (((idxA tt ops s (opAt ops i)).map (·.1)).getD s) Q) : WPH P cx ops s0 (fuel + 1) listed s Q := by
 obtain ⟨⟨s', i', m', G'⟩, hr, he⟩ := Option.map_eq_some_iff.1 h
 simp only [Prod.mk.injEq] at he
 obtain ⟨rfl, rfl, rfl⟩ := he
 obtain ⟨o, rest, T, t, e, x, ix, id, kd, sz, α, li, enc, z, k, hl, ho, hg, hx, hf, hi, ht, hsz, hs', hm, hG⟩ := idxA_spec hr
 simp only at hm hG
 rw [hr] at hK
 refine H_takef i (opAt_cons hl) hg hs' (fun hp cx n a w hh henv hH => ?_) hs hb hK
 have h0 := h0 (by rw [hG]; exact tagP_all hp)
 rw [hm] at h0
 obtain ⟨_, e2⟩ := ev_sound henv hH hx
 refine ⟨fun w1 => index_sound hT w1 henv hh hH ho hx hf hi ht hsz h0, e2, fun h hh => ?_⟩
 rw [hf] at hh
 cases hh
 exact h0
theorem H_AIX (hT : TTok P tt) (i : Nat) (x : Int) (m : Nat) (G : List (Bool × Bool)) {fuel : Nat} {listed : Array Bool} (h : (aixA tt ops s (opAt ops i)).map (·.2) = some (x, m, G)) (h0 : AllEq G → 0 ≤ x ∧ x < (m : Int)) (hs : Region.noSelect ops = true) (hb : takB ops listed i = true)
  (hK : WPH P cx ops s0 fuel (listed.setIfInBounds i true) (((aixA tt ops s (opAt ops i)).map (·.1)).getD s) Q) : WPH P cx ops s0 (fuel + 1) listed s Q := by
 obtain ⟨⟨s', i', m', G'⟩, hr, he⟩ := Option.map_eq_some_iff.1 h
 simp only [Prod.mk.injEq] at he
 obtain ⟨rfl, rfl, rfl⟩ := he
 obtain ⟨o, rest, T, c, hl, hg, hs', hG, hrun⟩ := aix_sound (P := P) hT hr
 simp only at hG hs' hrun
 rw [hr] at hK
 exact H_takef i (opAt_cons hl) hg hs' (fun hp cx n a w hh henv hH => hrun (h0 (by rw [hG]; exact tagP_all hp)) cx n a w hh henv hH) hs hb hK
end
def ents {κ : Type} (L : List κ) (ek ex : κ → Value) : Array MapEntry := (L.mapIdx fun i x => { key := ek x, val := ex x, born := i }).toArray
theorem ents_get {κ : Type} {L : List κ} {ek ex : κ → Value} {i : Nat} {x : κ} (h : L[i]? = some x) : (ents L ek ex)[i]? = some { key := ek x, val := ex x, born := i } := by
 simp [ents, List.getElem?_mapIdx, h]
theorem ents_mem {κ : Type} {L : List κ} {ek ex : κ → Value} {e : MapEntry} (h : e ∈ ents L ek ex) : ∃ i x, L[i]? = some x ∧ e = { key := ek x, val := ex x, born := i } := by
 obtain ⟨i, hi⟩ := Array.mem_iff_getElem?.1 h
 simp only [ents, List.getElem?_toArray, List.getElem?_mapIdx, Option.map_eq_some_iff] at hi
 obtain ⟨x, hx, rfl⟩ := hi
 exact ⟨i, x, hx, rfl⟩
theorem ents_snoc {κ : Type} {L : List κ} {ek ex : κ → Value} {x : κ} : ents (L ++ [x]) ek ex = (ents L ek ex).push { key := ek x, val := ex x, born := L.length } := by
 simp [ents, List.mapIdx_append]
theorem ents_nodup {κ : Type} {L : List κ} {ek ex : κ → Value} : ((ents L ek ex).toList.map (·.born)).Nodup := by
 rw [List.nodup_iff_pairwise_ne, List.pairwise_iff_getElem]
 intro i j hi hj hij
 simp [ents]
 omega
section
variable {P : Program} {w : World} {κ : Type} {L : List κ} {ek ex : κ → Value}
theorem run_getObj' {r : Nat} {o : Obj} (h : w.heap[r]? = some o) (hc : o.isCells = false := by rfl) : (getObj r).run P w = .ok o w := by
 cases o <;> first | (cases hc; done) | simp [getObj, Sem.run, h]
theorem run_setObj' {r : Nat} {o o' : Obj} (h : w.heap[r]? = some o) (hc : o.isCells = false := by rfl) : (setObj r o').run P w = .ok () (w.putObj r o') := by
 cases o <;> first | (cases hc; done) | simp [setObj, Sem.run, h, World.putObj]
theorem run_next' {r m : Nat} {sn : List Nat} {ty : TypeId} (hr : w.heap[r]? = some (.mapIter (some m) L.length sn.toArray L.length)) (hm : w.heap[m]? = some (.map (ents L ek ex) L.length)) :
  ((∀ i, i < L.length → i ∈ sn) ∧ (Instr.next (.pointer (some ⟨r, 0, none⟩)) false ty).run P w = .ok (.tuple #[.bool false]) w) ∨
  ∃ i x d, L[i]? = some x ∧ i ∉ sn ∧ (Instr.next (.pointer (some ⟨r, 0, none⟩)) false ty).run P w = .ok (.tuple #[.bool true, ek x, ex x]) (({ w with drawn := d } : World).putObj r (.mapIter (some m) L.length (sn ++ [i]).toArray L.length)) := by
 have hold : ∀ x ∈ (ents L ek ex).toList, x.born < L.length := fun x hx => by
  obtain ⟨i, y, hy, rfl⟩ := ents_mem (Array.mem_toList_iff.1 hx)
  exact (List.getElem?_eq_some_iff.1 hy).1
 have hmem : ∀ e ∈ (ents L ek ex).filter (fun e => !sn.toArray.contains e.born), ∃ i x, L[i]? = some x ∧ i ∉ sn ∧ e = { key := ek x, val := ex x, born := i } := fun e he => by
  obtain ⟨h1, h2⟩ := Array.mem_filter.1 he
  obtain ⟨i, x, hx, rfl⟩ := ents_mem h1
  refine ⟨i, x, hx, ?_, rfl⟩
  simpa using h2
 have hall : ∀ i, i < L.length → i ∉ sn → ∃ e, e ∈ (ents L ek ex).filter (fun e => !sn.toArray.contains e.born) := fun i hi hn => by
  refine ⟨{ key := ek L[i], val := ex L[i], born := i }, Array.mem_filter.2 ⟨Array.mem_iff_getElem?.2 ⟨i, ents_get (List.getElem?_eq_getElem hi)⟩, by simpa using hn⟩⟩
 simp only [Instr.next, Sem.run_bind, run_getObj' hr, run_getObj' hm, Result.andThen, next_test_false sn.toArray (ents L ek ex) L.length L.length hold (Nat.le_refl _), Bool.false_eq_true, if_false]
 revert hmem hall
 have hlt : ∀ x ∈ (Array.filter (fun e => !sn.toArray.contains e.born) (ents L ek ex)), x.born < L.length := fun x hx => hold x (Array.mem_toList_iff.2 (Array.mem_filter.1 hx).1)
 revert hlt
 generalize Array.filter (fun e => !sn.toArray.contains e.born) (ents L ek ex) = M
 intro hlt hmem hall
 have e1 : M.filter (fun x => decide (x.born < L.length)) = M := Array.filter_eq_self.2 (fun x hx => by simpa using hlt x hx)
 have e2 : M.filter (fun x => decide (x.born ≥ L.length)) = #[] := by
  rw [Array.filter_eq_empty_iff]
  intro x hx
  have := hlt x hx
  simp
  omega
 simp only [e1, e2, Array.append_empty]
 by_cases h0 : M.size = 0
 ·left
  have : M = #[] := Array.eq_empty_of_size_eq_zero h0
  subst this
  refine ⟨fun i hi => ?_, ?_⟩
  ·apply Classical.byContradiction
   intro hn
   obtain ⟨e, he⟩ := hall i hi hn
   simp at he
  simp [choose, Sem.run, Question.forced]
 right
 have hne : M.isEmpty = false := by simp [Array.isEmpty, h0]
 simp only [hne, Bool.false_eq_true, if_false, Array.empty_append, Array.size_map]
 have hch : ∃ (j : Nat) (d : Nat), j < M.size ∧ (choose (Question.mapNext M.size)).run P w = .ok j { w with drawn := d } := by
  by_cases hf : M.size ≤ 1
  ·exact ⟨0, w.drawn, by omega, by simp [choose, Sem.run, Question.forced, hf]⟩
  exact ⟨w.tape w.drawn (Question.mapNext M.size) % M.size, w.drawn + 1, Nat.mod_lt _ (by omega), by
   simp only [choose, Sem.run, Question.forced, decide_eq_true_eq, hf, if_false, Question.cut]⟩
 obtain ⟨j, d, hj, hrun⟩ := hch
 obtain ⟨i, x, hx, hn, he⟩ := hmem M[j] (Array.getElem_mem hj)
 refine ⟨i, x, d, hx, hn, ?_⟩
 have hset : ∀ o', (setObj r o').run P { w with drawn := d } = .ok () (({ w with drawn := d } : World).putObj r o') := fun o' => run_setObj' (w := { w with drawn := d }) hr
 simp only [hrun, Array.getElem?_map, Array.getElem?_eq_getElem hj, Option.map_some, Sem.run_bind, hset, Result.andThen, he]
 simp
theorem run_entry' {r m : Nat} {sn : List Nat} {i : Nat} {x : κ} (hr : w.heap[r]? = some (.mapIter (some m) L.length (sn ++ [i]).toArray L.length)) (hm : w.heap[m]? = some (.map (ents L ek ex) L.length)) (hx : L[i]? = some x) :
  (Instr.entry (.pointer (some ⟨r, 0, none⟩))).run P w = .ok (.tuple #[ek x, ex x]) w := by
 have hf : (ents L ek ex).find? (·.born == i) = some { key := ek x, val := ex x, born := i } := by
  rw [← Array.find?_toList]
  exact find_born { key := ek x, val := ex x, born := i } _ ents_nodup (Array.mem_toList_iff.2 (Array.mem_iff_getElem?.2 ⟨i, ents_get hx⟩))
 have hb : (sn ++ [i]).toArray.back? = some i := by simp
 simp only [Instr.entry, Sem.run_bind, run_getObj' hr, run_getObj' hm, Result.andThen_ok, hb, hf]
 simp
end
section
variable {P : Program} {tt : TT} {cx : Cx} {s s' : AS} {Q : Exit → AS → Prop} {ops : Array Oper} {l : List Oper}
def rngA (tt : TT) (s : AS) : List Oper → Option (AV × Option Tmp)
 | o :: _ => match o.op, o.guard with
  | .range t x, none => match tyL tt t with
   | some ⟨_, _, _, .map _ _⟩ => (ev s [] x).map fun v => (v, o.dst)
   | _ => none
  | _, _ => none
 | [] => none
theorem RNG (hT : TTok P tt) {κ : Type} (L : List κ) (ek ex : κ → Value) (v : AV) (g : Nat) (d : Option Tmp) (h : rngA tt s l = some (v, d)) (hv : ∀ n w, HSat cx n s w → v.c n = .map (some g) ∧ w.heap[g]? = some (.map (ents L ek ex) L.length))
  (hp : ((s.add (.ob false (.mapIter (some g) L.length ([] : List Nat).toArray L.length))).put d [] (.s (.ref s.nx))).isSome = true)
  (hK : WPO P cx ops l.tail (((s.add (.ob false (.mapIter (some g) L.length ([] : List Nat).toArray L.length))).put d [] (.s (.ref s.nx))).getD s) Q) : WPO P cx ops l s Q := fun n a w hs => by
 cases l with
 | nil => cases h
 | cons o rest =>
  obtain ⟨s', hs'⟩ := Option.isSome_iff_exists.1 hp
  rw [hs'] at hK
  simp only [rngA] at h
  split at h <;> try (cases h; done)
  rename_i t x ho hg
  split at h <;> try (cases h; done)
  rename_i z1 b1 zv k e ht
  obtain ⟨v', hx, he⟩ := Option.map_eq_some_iff.1 h
  simp only [Prod.mk.injEq] at he
  obtain ⟨rfl, rfl⟩ := he
  obtain ⟨F⟩ := hT.get ht
  have hd : F.desc = .map k e := by
   have := F.td
   cases hd : F.desc <;> rw [hd] at this <;> simp only [tdOf] at this <;> first
    | (cases this; done)
    | (injection this with h1 h2; rw [h1, h2])
  have hH : Holds a [] := fun x hx => by cases hx
  obtain ⟨e1, _⟩ := ev_sound hs.env hH hx
  obtain ⟨hv1, hv2⟩ := hv n w hs.heap
  have hrun : (execOp a.eval o).run P w = .ok (.value (.pointer (some ⟨w.heap.size, 0, none⟩))) (w.alloc (.mapIter (some g) L.length #[] L.length)) := by
   unfold execOp
   rw [ho]
   simp only [e1, hv1, Sem.run_bind]
   rw [run_range_map w t k e g _ _ (by rw [F.hdesc, hd]) hv2]
   rfl
  refine wp_value (wanted_none (ops := ops) hg) hrun ?_
  have hh := hs.heap.add (e := .ob false (.mapIter (some g) L.length ([] : List Nat).toArray L.length)) (v := .pointer (some ⟨w.heap.size, 0, none⟩)) (w' := w.alloc (.mapIter (some g) L.length #[] L.length))
   ((Below.refl _ w).alloc (Nat.le_refl _) _) rfl ⟨w.heap.size, rfl, hs.heap.fr.news _ hs.heap.fr.size, World.alloc_heap_new w _⟩ trivial (fun g' hg' => by cases hg'; simp) (fun g' hg' => by cases hg'; exact .inl (Nat.le_refl _))
  exact hK _ _ _ (put_sat (env_add hs (upd_lt n s.nx _) hh) hs' (fun _ => ⟨(upd_same n s.nx _).symm, Nat.lt_succ_self _⟩) (fun hn => absurd hH hn))
def nxtA (s : AS) : List Oper → Option (Nat × Option Tmp)
 | o :: _ => match o.op, o.guard with
  | .next it false, none => match ev s [] it with
   | some (.s (.ref id)) => some (id, o.dst)
   | _ => none
  | _, _ => none
 | [] => none
theorem ob_addr {n : Vn} {w : World} (h : HSat cx n s w) {id : Nat} {o : Obj} (hf : fnd s.hp id = some (.ob false o)) : ∃ g, n id = .pointer (some ⟨g, 0, none⟩) ∧ cx.ok g ∧ w.heap[g]? = some o := h.ents _ (fnd_mem hf)
theorem HSat.obset {n : Vn} {w : World} (h : HSat cx n s w) {id g : Nat} {b : Bool} {o o' : Obj} (hf : fnd s.hp id = some (.ob b o)) (hg : vblk (n id) = some g) (hok : cx.ok g) (ho : w.heap[g]? = some o) : HSat cx n { s with hp := rep s.hp id (.ob b o') } (w.putObj g o') := by
 obtain ⟨g', hv, hok', ho'⟩ := h.ents _ (fnd_mem hf)
 have hgg : g' = g := by
  simp only at hv
  rw [hv] at hg
  cases b <;> simpa [vblk] using hg
 subst hgg
 exact h.write hf rfl hg rfl (fun _ => rfl) (Nat.le_refl _) hok (fun k hk => World.putObj_heap_other hk) World.putObj_size rfl rfl rfl
  ⟨g', hv, hok, World.putObj_heap_same (Array.getElem?_eq_some_iff.1 ho).1⟩ trivial
theorem NXT {κ : Type} (L : List κ) (ek ex : κ → Value) (pk px : κ → Bool × List AC) (id g : Nat) (sn : List Nat) (d : Option Tmp) (h : nxtA s l = some (id, d)) (hf : fnd s.hp id = some (.ob false (.mapIter (some g) L.length sn.toArray L.length)))
  (hm : ∀ n w, HSat cx n s w → w.heap[g]? = some (.map (ents L ek ex) L.length)) (hk : ∀ x n, part1 n (pk x) = ek x ∧ part1 n (px x) = ex x) (hok : ∀ x ∈ L, cellsOk s (pk x).2 ∧ cellsOk s (px x).2)
  (hp0 : (s.put d [] (.t [(false, [.bool false])])).isSome = true) (h0 : (∀ i, i < L.length → i ∈ sn) → WPO P cx ops l.tail ((s.put d [] (.t [(false, [.bool false])])).getD s) Q)
  (hp1 : ∀ (i : Nat) (x : κ), (({ s with hp := rep s.hp id (.ob false (.mapIter (some g) L.length (sn ++ [i]).toArray L.length)) } : AS).put d [] (.t [(false, [.bool true]), pk x, px x])).isSome = true)
  (h1 : ∀ (i : Nat) (x : κ), L[i]? = some x → i ∉ sn → WPO P cx ops l.tail ((({ s with hp := rep s.hp id (.ob false (.mapIter (some g) L.length (sn ++ [i]).toArray L.length)) } : AS).put d [] (.t [(false, [.bool true]), pk x, px x])).getD s) Q) : WPO P cx ops l s Q := fun n a w hs => by
 cases l with
 | nil => cases h
 | cons o rest =>
  simp only [nxtA] at h
  split at h <;> try (cases h; done)
  rename_i it ho hg
  split at h <;> try (cases h; done)
  rename_i id' hx
  cases h
  have hH : Holds a [] := fun x hx => by cases hx
  obtain ⟨e1, _⟩ := ev_sound hs.env hH hx
  obtain ⟨r, hv, hok1, ho1⟩ := ob_addr hs.heap hf
  simp only [AV.c, AC.c, hv] at e1
  rcases run_next' (P := P) (ty := o.type) ho1 (hm n w hs.heap) with ⟨hall, hr⟩ | ⟨i, x, dd, hx, hn, hr⟩
  ·obtain ⟨s', hs'⟩ := Option.isSome_iff_exists.1 hp0
   have hK := h0 hall
   rw [hs'] at hK
   have hrun : (execOp a.eval o).run P w = .ok (.value (.tuple #[.bool false])) w := by
    unfold execOp
    rw [ho]
    simp only [e1, Sem.run_bind, hr]
    rfl
   refine wp_value (wanted_none (ops := ops) hg) hrun (hK _ _ _ (put_sat hs hs' (fun _ => ⟨rfl, fun y hy c hc => ?_⟩) (fun hn => absurd hH hn)))
   rw [List.mem_singleton.1 hy] at hc
   rw [List.mem_singleton.1 hc]
   trivial
  obtain ⟨s', hs'⟩ := Option.isSome_iff_exists.1 (hp1 i x)
  have hK := h1 i x hx hn
  rw [hs'] at hK
  have hrun : (execOp a.eval o).run P w = .ok (.value (.tuple #[.bool true, ek x, ex x])) (({ w with drawn := dd } : World).putObj r (.mapIter (some g) L.length (sn ++ [i]).toArray L.length)) := by
   unfold execOp
   rw [ho]
   simp only [e1, Sem.run_bind, hr]
   rfl
  have hh := (hs.heap.same (w' := { w with drawn := dd }) rfl rfl rfl rfl).obset (o' := .mapIter (some g) L.length (sn ++ [i]).toArray L.length) hf (by rw [hv]; rfl) hok1 ho1
  have hmore : More s { s with hp := rep s.hp id (.ob false (.mapIter (some g) L.length (sn ++ [i]).toArray L.length)) } := ⟨Nat.le_refl _, fun j _ e he => by
   by_cases hj : j = id
   ·subst hj
    have : fnd (rep s.hp j (.ob false (.mapIter (some g) L.length (sn ++ [i]).toArray L.length))) j = some _ := fnd_rep_eq hf
    rw [this] at he
    cases he
    exact ⟨_, hf, Nat.le_refl _⟩
   exact ⟨e, by rw [← fnd_rep_ne (e := .ob false (.mapIter (some g) L.length (sn ++ [i]).toArray L.length)) hj]; exact he, Nat.le_refl _⟩⟩
  have hxm : x ∈ L := List.mem_of_getElem? hx
  refine wp_value (wanted_none (ops := ops) hg) hrun (hK _ _ _ (put_sat (env_hp hs hmore hh) hs' (fun _ => ⟨?_, fun y hy => ?_⟩) (fun hn => absurd hH hn)))
  ·simp only [AV.c, List.map_cons, List.map_nil, hk]
   rfl
  rcases List.mem_cons.1 hy with rfl | hy
  ·intro c hc; rw [List.mem_singleton.1 hc]; trivial
  rcases List.mem_cons.1 hy with rfl | hy
  ·exact cellsOk_more (hok x hxm).1 hmore
  rw [List.mem_singleton.1 hy]; exact cellsOk_more (hok x hxm).2 hmore
def entA (s : AS) : List Oper → Option (Nat × Option Tmp)
 | o :: _ => match o.op, o.guard with
  | .entry it, none => match ev s [] it with
   | some (.s (.ref id)) => some (id, o.dst)
   | _ => none
  | _, _ => none
 | [] => none
theorem ENT {κ : Type} (L : List κ) (ek ex : κ → Value) (pk px : κ → Bool × List AC) (id g : Nat) (sn : List Nat) (i : Nat) (x : κ) (d : Option Tmp) (h : entA s l = some (id, d)) (hf : fnd s.hp id = some (.ob false (.mapIter (some g) L.length (sn ++ [i]).toArray L.length)))
  (hm : ∀ n w, HSat cx n s w → w.heap[g]? = some (.map (ents L ek ex) L.length)) (hx : L[i]? = some x) (hk : ∀ n, part1 n (pk x) = ek x ∧ part1 n (px x) = ex x) (hok : cellsOk s (pk x).2 ∧ cellsOk s (px x).2)
  (hp : (s.put d [] (.t [pk x, px x])).isSome = true) (hK : WPO P cx ops l.tail ((s.put d [] (.t [pk x, px x])).getD s) Q) : WPO P cx ops l s Q := fun n a w hs => by
 cases l with
 | nil => cases h
 | cons o rest =>
  obtain ⟨s', hs'⟩ := Option.isSome_iff_exists.1 hp
  rw [hs'] at hK
  simp only [entA] at h
  split at h <;> try (cases h; done)
  rename_i it ho hg
  split at h <;> try (cases h; done)
  rename_i id' hx'
  cases h
  have hH : Holds a [] := fun x hx => by cases hx
  obtain ⟨e1, _⟩ := ev_sound hs.env hH hx'
  obtain ⟨r, hv, hok1, ho1⟩ := ob_addr hs.heap hf
  simp only [AV.c, AC.c, hv] at e1
  have hrun : (execOp a.eval o).run P w = .ok (.value (.tuple #[ek x, ex x])) w := by
   unfold execOp
   rw [ho]
   simp only [e1, Sem.run_bind, run_entry' ho1 (hm n w hs.heap) hx]
   rfl
  refine wp_value (wanted_none (ops := ops) hg) hrun (hK _ _ _ (put_sat hs hs' (fun _ => ⟨?_, fun y hy => ?_⟩) (fun hn => absurd hH hn)))
  ·simp only [AV.c, List.map_cons, List.map_nil, hk]
  rcases List.mem_cons.1 hy with rfl | hy
  ·exact hok.1
  rw [List.mem_singleton.1 hy]; exact hok.2
def mkmA (s : AS) : List Oper → Option (Option Tmp)
 | o :: _ => match o.op, o.guard with
  | .makeMap t none, none => some o.dst
  | _, _ => none
 | [] => none
end
def isI64 (P : Program) (t : TypeId) : Bool := match P.underlying t with | some (.int .i64) => true | _ => false
def isBl (P : Program) (t : TypeId) : Bool := match P.underlying t with | some .bool => true | _ => false
theorem isI64_spec {P : Program} {t : TypeId} (h : isI64 P t = true) : P.underlying t = some (.int .i64) := by
 unfold isI64 at h
 split at h
 ·assumption
 cases h
theorem isBl_spec {P : Program} {t : TypeId} (h : isBl P t = true) : P.underlying t = some .bool := by
 unfold isBl at h
 split at h
 ·assumption
 cases h
def pair2 (P : Program) (t : TypeId) : Bool :=
 match P.underlying t with
 | some (.struct fs) => go fs.toList && !(P.stoodInHeld t) && !(P.eqGuardType P.depth t)
 | _ => false
where go : List Field → Bool
 | [f, g] => (f.name != "_") && (g.name != "_") && Nat.beq f.offset 0 && Nat.beq g.offset 1 && isI64 P f.type && isI64 P g.type
 | _ => false
def pairV (a b : Int) : Value := .agg #[.int .i64 a, .int .i64 b]
section
variable {P : Program} {t : TypeId}
theorem run_part_cell {e : TypeId} {w : World} {xs : Array Value} {off : Nat} {v : Value} (he : isI64 P e = true ∨ isBl P e = true) (hx : xs[off]? = some v) : (part e xs off).run P w = .ok v w := by
 refine run_part_plain w (he := ?_) hx
 unfold Program.plainKey
 rcases he with h | h
 ·rw [isI64_spec h]
 rw [isBl_spec h]
theorem pair2_spec (h : pair2 P t = true) : ∃ fs f g, P.underlying t = some (.struct fs) ∧ fs.toList = [f, g] ∧ f.name ≠ "_" ∧ g.name ≠ "_" ∧ f.offset = 0 ∧ g.offset = 1 ∧ isI64 P f.type = true ∧ isI64 P g.type = true ∧ P.stoodInHeld t = false ∧ P.eqGuardType P.depth t = false := by
 unfold pair2 at h
 split at h
 ·rename_i fs hu
  simp only [Bool.and_eq_true, Bool.not_eq_true'] at h
  obtain ⟨⟨h1, h2⟩, h3⟩ := h
  unfold pair2.go at h1
  split at h1
  ·rename_i f g hl
   simp only [Bool.and_eq_true, bne_iff_ne] at h1
   exact ⟨fs, f, g, hu, hl, h1.1.1.1.1.1, h1.1.1.1.1.2, Nat.eq_of_beq_eq_true h1.1.1.1.2, Nat.eq_of_beq_eq_true h1.1.1.2, h1.1.2, h1.2, h2, h3⟩
  cases h1
 cases h
theorem run_eq_pair (h : pair2 P t = true) (d : Nat) (a b c e : Int) (w : World) : (Op.equalIn (d + 2) t (pairV a b) (pairV c e)).run P w = .ok (a == c && b == e) w := by
 obtain ⟨fs, f, g, hu, hl, n1, n2, o1, o2, i1, i2, hp, _⟩ := pair2_spec h
 have hf : P.fieldsOf t = fs := by unfold Program.fieldsOf; rw [hu]
 unfold pairV
 rw [run_equalIn_struct w (d + 1) t _ _ (by rw [hf]; exact hu) hp, hf, hl]
 simp only [Op.eqFields, ne_eq, n1, n2, not_false_eq_true, if_true, Sem.run_bind]
 rw [run_part_cell (v := .int .i64 a) (.inl i1) (by rw [o1]; rfl)]
 simp only [Result.andThen_ok]
 rw [run_part_cell (v := .int .i64 c) (.inl i1) (by rw [o1]; rfl)]
 simp only [Result.andThen_ok]
 rw [run_equalIn_int w d _ _ _ _ _ (isI64_spec i1)]
 simp only [Result.andThen_ok]
 cases hac : (a == c)
 ·simp
 simp only [Bool.not_true, Bool.false_eq_true, if_false, Sem.run_bind]
 rw [run_part_cell (v := .int .i64 b) (.inl i2) (by rw [o2]; rfl)]
 simp only [Result.andThen_ok]
 rw [run_part_cell (v := .int .i64 e) (.inl i2) (by rw [o2]; rfl)]
 simp only [Result.andThen_ok]
 rw [run_equalIn_int w d _ _ _ _ _ (isI64_spec i2)]
 simp only [Result.andThen_ok]
 cases hbe : (b == e) <;> simp
def arrOf (P : Program) (leaf : TypeId → Bool) (t : TypeId) (n : Nat) : Bool :=
 match P.underlying t with
 | some (.array m e) => Nat.beq m n && leaf e && (match P.info? e with | some i => Nat.beq (P.cellsOf e) 1 | none => false) && !(P.eqGuardType P.depth t)
 | _ => false
theorem arrOf_spec {leaf : TypeId → Bool} {n : Nat} (h : arrOf P leaf t n = true) : ∃ e i, P.underlying t = some (.array n e) ∧ leaf e = true ∧ P.info? e = some i ∧ P.cellsOf e = 1 ∧ P.eqGuardType P.depth t = false := by
 unfold arrOf at h
 split at h
 ·rename_i m e hu
  simp only [Bool.and_eq_true, Bool.not_eq_true'] at h
  obtain ⟨⟨⟨h1, h2⟩, h3⟩, h4⟩ := h
  split at h3
  ·rename_i i hi
   exact ⟨e, i, by rw [hu, Nat.eq_of_beq_eq_true h1], h2, hi, Nat.eq_of_beq_eq_true h3, h4⟩
  cases h3
 cases h
theorem run_eqItems {d : Nat} {e : TypeId} {α : Type} [BEq α] (mk : α → Value) (he : isI64 P e = true ∨ isBl P e = true) (hq : ∀ (x y : α) (w : World), (Op.equalIn d e (mk x) (mk y)).run P w = .ok (x == y) w) (xs ys : List α) (w : World) (hl : xs.length = ys.length) :
  (Op.eqItems d e 1 (xs.map mk).toArray (ys.map mk).toArray (List.range xs.length)).run P w = .ok (xs == ys) w := by
 have key : ∀ (k : Nat) (a b : List α), a = xs.drop k → b = ys.drop k → k + a.length = xs.length → (Op.eqItems d e 1 (xs.map mk).toArray (ys.map mk).toArray (List.range' k a.length)).run P w = .ok (a == b) w := by
  intro k a
  induction a generalizing k with
  | nil =>
   intro b ha hb hk
   have : b = [] := by rw [hb]; apply List.drop_eq_nil_of_le; simp at hk; omega
   subst this
   simp [Op.eqItems]
  | cons x a ih =>
   intro b ha hb hk
   simp only [List.length_cons] at hk
   cases b with
   | nil =>
    have := congrArg List.length hb
    simp at this
    omega
   | cons y b =>
    have hx : xs[k]? = some x := by
     have := congrArg (·[0]?) ha
     simpa using this.symm
    have hy : ys[k]? = some y := by
     have := congrArg (·[0]?) hb
     simpa using this.symm
    simp only [List.length_cons, List.range'_succ, Op.eqItems, Sem.run_bind, Nat.mul_one]
    rw [run_part_cell (v := mk x) he (by simp [hx])]
    simp only [Result.andThen_ok]
    rw [run_part_cell (v := mk y) he (by simp [hy])]
    simp only [Result.andThen_ok, hq]
    cases hxy : (x == y)
    ·simp [hxy]
    simp only [Bool.not_true, Bool.false_eq_true, if_false]
    rw [ih (k + 1) b (by have := congrArg List.tail ha; simpa using this) (by have := congrArg List.tail hb; simpa using this) (by omega)]
    simp [hxy]
 have := key 0 xs ys rfl rfl (by simp)
 rwa [← List.range_eq_range'] at this
theorem run_eq_arrI {n : Nat} (h : arrOf P (isI64 P) t n = true) (d : Nat) (xs ys : List Int) (w : World) (hx : xs.length = n) (hy : ys.length = n) : (Op.equalIn (d + 2) t (.agg (xs.map (Value.int .i64)).toArray) (.agg (ys.map (Value.int .i64)).toArray)).run P w = .ok (xs == ys) w := by
 obtain ⟨e, i, hu, hl, hi, hc, _⟩ := arrOf_spec h
 rw [run_equalIn_array w (d + 1) _ _ hu hi, hc, ← hx]
 exact run_eqItems _ (.inl hl) (fun x y w => run_equalIn_int w d e _ _ x y (isI64_spec hl)) xs ys w (hx.trans hy.symm)
theorem run_eq_arrB {n : Nat} (h : arrOf P (isBl P) t n = true) (d : Nat) (xs ys : List Bool) (w : World) (hx : xs.length = n) (hy : ys.length = n) : (Op.equalIn (d + 2) t (.agg (xs.map Value.bool).toArray) (.agg (ys.map Value.bool).toArray)).run P w = .ok (xs == ys) w := by
 obtain ⟨e, i, hu, hl, hi, hc, _⟩ := arrOf_spec h
 rw [run_equalIn_array w (d + 1) _ _ hu hi, hc, ← hx]
 exact run_eqItems _ (.inr hl) (fun x y w => run_equalIn_bool w d e x y (isBl_spec hl)) xs ys w (hx.trans hy.symm)
end
section
variable {P : Program} {tt : TT} {cx : Cx} {s s' : AS} {Q : Exit → AS → Prop} {ops : Array Oper} {l : List Oper} {t : TypeId} {x y : Operand}
theorem bin_agg {xs ys : Array Value} {b : Bool} {w : World} (hg : P.eqGuardType P.depth t = false) (h : (Op.equalIn 10000 t (.agg xs) (.agg ys)).run P w = .ok b w) :
  (do eqGuard .eql t x y (.agg xs) (.agg ys); binOp .eql t (.agg xs) (.agg ys) : Sem Value).run P w = .ok (.bool b) w ∧ (do eqGuard .neq t x y (.agg xs) (.agg ys); binOp .neq t (.agg xs) (.agg ys) : Sem Value).run P w = .ok (.bool (!b)) w := by
 constructor <;>
  rw [Sem.run_bind, run_eqGuard_agg w _ t x y xs ys hg] <;>
  simp only [Result.andThen_ok]
 ·rw [run_eql_struct, h]; rfl
 rw [run_neq_struct, h]; rfl
theorem BinOk_pair (h : pair2 P t = true) (a b c d : Int) : BinOk P cx s .eql t x y (.g [.int .i64 a, .int .i64 b]) (.g [.int .i64 c, .int .i64 d]) (.s (.bool (a == c && b == d))) := fun n w _ => by
 obtain ⟨_, _, _, _, _, _, _, _, _, _, _, _, hg⟩ := pair2_spec h
 exact (bin_agg hg (run_eq_pair h 9998 a b c d w)).1
theorem BinOk_pairN (h : pair2 P t = true) (a b c d : Int) : BinOk P cx s .neq t x y (.g [.int .i64 a, .int .i64 b]) (.g [.int .i64 c, .int .i64 d]) (.s (.bool (!(a == c && b == d)))) := fun n w _ => by
 obtain ⟨_, _, _, _, _, _, _, _, _, _, _, _, hg⟩ := pair2_spec h
 exact (bin_agg hg (run_eq_pair h 9998 a b c d w)).2
theorem cells_bools (n : Vn) (xs : List Bool) : cellsV n (xs.map AC.bool) = (xs.map Value.bool).toArray := by simp [cellsV, Function.comp_def, AC.c]
theorem cells_ints (n : Vn) (xs : List Int) : cellsV n (xs.map (AC.int .i64)) = (xs.map (Value.int .i64)).toArray := by simp [cellsV, Function.comp_def, AC.c]
theorem BinOk_arrB {m : Nat} (h : arrOf P (isBl P) t m = true) {xs ys : List Bool} (hx : xs.length = m) (hy : ys.length = m) : BinOk P cx s .eql t x y (.g (xs.map AC.bool)) (.g (ys.map AC.bool)) (.s (.bool (xs == ys))) ∧ BinOk P cx s .neq t x y (.g (xs.map AC.bool)) (.g (ys.map AC.bool)) (.s (.bool (!(xs == ys)))) := by
 obtain ⟨_, _, _, _, _, _, hg⟩ := arrOf_spec h
 constructor <;> intro n w _ <;> simp only [AV.c, cells_bools]
 ·exact (bin_agg hg (run_eq_arrB h 9998 xs ys w hx hy)).1
 exact (bin_agg hg (run_eq_arrB h 9998 xs ys w hx hy)).2
theorem BinOk_arrI {m : Nat} (h : arrOf P (isI64 P) t m = true) {xs ys : List Int} (hx : xs.length = m) (hy : ys.length = m) : BinOk P cx s .eql t x y (.g (xs.map (AC.int .i64))) (.g (ys.map (AC.int .i64))) (.s (.bool (xs == ys))) ∧ BinOk P cx s .neq t x y (.g (xs.map (AC.int .i64))) (.g (ys.map (AC.int .i64))) (.s (.bool (!(xs == ys)))) := by
 obtain ⟨_, _, _, _, _, _, hg⟩ := arrOf_spec h
 constructor <;> intro n w _ <;> simp only [AV.c, cells_ints]
 ·exact (bin_agg hg (run_eq_arrI h 9998 xs ys w hx hy)).1
 exact (bin_agg hg (run_eq_arrI h 9998 xs ys w hx hy)).2
theorem check_pair (h : pair2 P t = true) (a b : Int) (w : World) : (Instr.checkKey false 10000 t (pairV a b)).run P w = .ok () w := by
 obtain ⟨fs, f, g, hu, hl, n1, n2, o1, o2, i1, i2, hp, _⟩ := pair2_spec h
 have hint : ∀ (d : Nat) (e : TypeId) (v : Int) (w : World), isI64 P e = true → (Instr.checkKey false (d + 1) e (.int .i64 v)).run P w = .ok () w := fun d e v w he => by
  unfold Instr.checkKey
  simp only [Sem.run_bind, run_underlying (isI64_spec he), Result.andThen_ok, Sem.run_pure]
 unfold pairV Instr.checkKey
 simp only [Sem.run_bind, run_underlying hu, Result.andThen_ok]
 rw [← Array.forIn_toList, hl]
 simp only [List.forIn_cons, List.forIn_nil, ne_eq, n1, n2, not_false_eq_true, if_true, Sem.run_bind]
 rw [run_part_cell (v := .int .i64 a) (.inl i1) (by rw [o1]; rfl)]
 simp only [Result.andThen_ok, hint 9998 _ _ _ i1, Sem.run_pure, Sem.run_bind]
 rw [run_part_cell (v := .int .i64 b) (.inl i2) (by rw [o2]; rfl)]
 simp only [Result.andThen_ok, hint 9998 _ _ _ i2, Sem.run_pure]
theorem find_pair {κ : Type} (h : pair2 P t = true) (a b : Int) (key : κ → Int × Int) (ek ex : κ → Value) (hk : ∀ x, ek x = pairV (key x).1 (key x).2) (w : World) (L : List κ) :
  (Instr.findKey t (pairV a b) (ents L ek ex).toList).run P w = .ok ((L.zipIdx.find? fun z => (key z.1) == (a, b)).map fun z => (z.2, ex z.1)) w := by
 obtain ⟨fs, f, g, hu, hl, n1, n2, o1, o2, i1, i2, hp, _⟩ := pair2_spec h
 rw [run_findKey_eq w (by rw [hu])]
 simp only [ents]
 have hmap : (L.mapIdx fun i x => ({ key := ek x, val := ex x, born := i } : MapEntry)) = L.zipIdx.map fun z => { key := ek z.1, val := ex z.1, born := z.2 } := by
  rw [List.mapIdx_eq_zipIdx_map]
 rw [hmap]
 have key' : ∀ (M : List (κ × Nat)) (i : Nat), M = L.zipIdx.drop i → (Instr.findAsking t (pairV a b) (M.map fun z => ({ key := ek z.1, val := ex z.1, born := z.2 } : MapEntry)) i).run P w = .ok ((M.find? fun z => (key z.1) == (a, b)).map fun z => (z.2, ex z.1)) w := by
  intro M
  induction M with
  | nil => intro i _; simp [Instr.findAsking]
  | cons z M ih =>
   intro i hM
   have hz : z.2 = i := by
    have : (L.zipIdx.drop i)[0]? = some z := by rw [← hM]; rfl
    simp only [List.getElem?_drop, List.getElem?_zipIdx, Nat.add_zero, Nat.zero_add, Option.map_eq_some_iff] at this
    obtain ⟨q, _, rfl⟩ := this
    rfl
   rw [List.map_cons, Instr.findAsking, Sem.run_bind]
   have he : (Op.equal t (pairV a b) (ek z.1)).run P w = .ok (a == (key z.1).1 && b == (key z.1).2) w := by
    rw [hk]; exact run_eq_pair h 9998 _ _ _ _ w
   rw [he, List.find?_cons]
   simp only [Result.andThen_ok]
   have hb : (a == (key z.1).1 && b == (key z.1).2) = ((key z.1) == (a, b)) := by
    rcases hkk : key z.1 with ⟨p, q⟩
    simp only
    rw [Bool.eq_iff_iff]
    simp only [Bool.and_eq_true, beq_iff_eq, Prod.mk.injEq]
    exact ⟨fun h => ⟨h.1.symm, h.2.symm⟩, fun h => ⟨h.1.symm, h.2.symm⟩⟩
   rw [hb]
   cases hc : ((key z.1) == (a, b))
   ·simp only [Bool.false_eq_true, if_false]
    exact ih (i + 1) (by have := congrArg List.tail hM; simpa using this)
   simp [hz]
 exact key' L.zipIdx 0 rfl
theorem find_pair_none {κ : Type} (h : pair2 P t = true) (a b : Int) (key : κ → Int × Int) (ek ex : κ → Value) (hk : ∀ x, ek x = pairV (key x).1 (key x).2) (w : World) (L : List κ) (hn : ∀ x ∈ L, key x ≠ (a, b)) :
  (Instr.findKey t (pairV a b) (ents L ek ex).toList).run P w = .ok none w := by
 rw [find_pair h a b key ek ex hk w L, List.find?_eq_none.2]
 ·rfl
 intro z hz
 have := hn z.1 (by
  have := List.mem_zipIdx' hz
  rw [this.2]
  exact List.getElem_mem _)
 simpa using this
def bslA (tt : TT) (ops : Array Oper) (s : AS) : List Oper → Option (Nat × Nat × Nat × Nat × Int × Int × Int × List (Bool × Bool) × Option Tmp × List (Nat × Bool))
 | o :: _ => match o.op, gTag s ops o with
  | .slice t x lo hi mx, some T => match ev s T x, tyL tt t with
   | some (.s (.p id off)), some ⟨_, _, _, .array m e⟩ => match tyL tt e, bndT s T 0 lo, bndT s T m hi, bndT s T m mx with
    | some ei, some i, some j, some k => bif isBox (fnd s.hp id) && (mx.isNone || hi.isSome) then some (id, off, ei.size, m, i, j, k, tagL s T, o.dst, T) else none
    | _, _, _, _ => none
   | _, _ => none
  | _, _ => none
 | [] => none
where bndT (s : AS) (T : List (Nat × Bool)) (d : Int) : Option Operand → Option Int
 | none => some d
 | some x => match ev s T x with
  | some (.s (.int .i64 i)) => some i
  | _ => none
def bslP (tt : TT) (ops : Array Oper) (s : AS) (l : List Oper) : Option AS :=
 match bslA tt ops s l with
 | some (id, off, sz, m, i, j, k, _, d, T) => s.put d T (.s (.sb id off sz i.toNat j.toNat k.toNat))
 | none => none
theorem run_boundsA {m : Nat} {w : World} {lo hi mx : Option Value} {i j k : Int} (hlo : bv 0 lo i) (hhi : bv m hi j) (hmx : bv m mx k) (hx : mx.isNone || hi.isSome)
  (h : 0 ≤ i ∧ i ≤ j ∧ j ≤ k ∧ k ≤ m) : (Instr.sliceBounds false m m lo hi mx).run P w = .ok (i.toNat, j.toNat, k.toNat) w := by
 obtain ⟨h0, h1, h2, h3⟩ := h
 unfold Instr.sliceBounds
 have hsb : ∀ (x : Int) (y : Nat) (c : BoundsCode), 0 ≤ x → x ≤ y → (Instr.sliceBound (.int .i64 x) y c).run P w = .ok x.toNat w := fun x y c hx hy => by
  simp [Instr.sliceBound, asIntOf, hx, hy]
 cases mx with
 | none =>
  have hm : k = m := hmx
  cases hi with
  | none =>
   have hj : j = m := hhi
   cases lo with
   | none => have hi : i = 0 := hlo; simp [hi, hj, hm]
   | some v => have hi : v = .int .i64 i := hlo; subst hi; simp [hsb i m _ h0 (by omega), hj, hm]
  | some v =>
   have hj : v = .int .i64 j := hhi
   subst hj
   cases lo with
   | none => have hi : i = 0 := hlo; simp [hsb j m _ (by omega) (by omega), hi, hm]
   | some v => have hi : v = .int .i64 i := hlo; subst hi; simp [hsb j m _ (by omega) (by omega), hsb i j.toNat _ h0 (by omega), hm]
 | some v =>
  have hm : v = .int .i64 k := hmx
  subst hm
  cases hi with
  | none => cases hx
  | some v =>
   have hj : v = .int .i64 j := hhi
   subst hj
   cases lo with
   | none => have hi : i = 0 := hlo; simp [hsb k m _ (by omega) h3, hsb j k.toNat _ (by omega) (by omega), hi]
   | some v => have hi : v = .int .i64 i := hlo; subst hi; simp [hsb k m _ (by omega) h3, hsb j k.toNat _ (by omega) (by omega), hsb i j.toNat _ h0 (by omega)]
theorem bsl_sound (hT : TTok P tt) {r : Nat × Nat × Nat × Nat × Int × Int × Int × List (Bool × Bool) × Option Tmp × List (Nat × Bool)} (h : bslA tt ops s l = some r) :
  ∃ (o : Oper) (rest : List Oper), l = o :: rest ∧ gTag s ops o = some r.2.2.2.2.2.2.2.2.2 ∧ r.2.2.2.2.2.2.2.2.1 = o.dst ∧ r.2.2.2.2.2.2.2.1 = tagL s r.2.2.2.2.2.2.2.2.2 ∧
  (0 ≤ r.2.2.2.2.1 ∧ r.2.2.2.2.1 ≤ r.2.2.2.2.2.1 ∧ r.2.2.2.2.2.1 ≤ r.2.2.2.2.2.2.1 ∧ r.2.2.2.2.2.2.1 ≤ (r.2.2.2.1 : Int) → ∀ (cx : Cx) n a w, HSat cx n s w → (∀ x ∈ s.env, EntOk n s a x) → Holds a r.2.2.2.2.2.2.2.2.2 →
   (∀ w1, (execOp a.eval o).run P w1 = .ok (.value ((AC.sb r.1 r.2.1 r.2.2.1 r.2.2.2.2.1.toNat r.2.2.2.2.2.1.toNat r.2.2.2.2.2.2.1.toNat).c n)) w1) ∧ (AC.sb r.1 r.2.1 r.2.2.1 r.2.2.2.2.1.toNat r.2.2.2.2.2.1.toNat r.2.2.2.2.2.2.1.toNat).ok s) := by
 cases l with
 | nil => cases h
 | cons o rest =>
  simp only [bslA] at h
  split at h <;> try (cases h; done)
  rename_i t0 x0 lo hi mx T ho hg
  split at h <;> try (cases h; done)
  rename_i id off z1 b1 zv m e hx ht
  split at h <;> try (cases h; done)
  rename_i ei i j k hei hlo hhi hmx
  rcases hb : (isBox (fnd s.hp id) && (mx.isNone || hi.isSome)) with _ | _
  ·rw [hb] at h; cases h
  rw [hb] at h
  simp only [cond_true, Option.some.injEq] at h
  subst h
  simp only [Bool.and_eq_true] at hb
  refine ⟨o, rest, rfl, hg, rfl, rfl, fun h0 cx n a w hh henv hH => ?_⟩
  obtain ⟨F⟩ := hT.get ht
  obtain ⟨G⟩ := hT.get hei
  have hd : F.desc = .array m e := by
   have := F.td
   cases hd : F.desc <;> rw [hd] at this <;> simp only [tdOf] at this <;> first
    | (cases this; done)
    | (injection this with h1 h2; rw [h1, h2])
  obtain ⟨e1, e3⟩ := ev_sound henv hH hx
  obtain ⟨g, hv⟩ := box_addr hh hb.1
  simp only [AV.c, AC.c, hv, ptrAt] at e1
  have hbv : ∀ (d : Int) (q : Option Operand) (v : Int), bslA.bndT s T d q = some v → bv d (q.map a.eval) v := fun d q v hq => by
   cases q with
   | none => simp only [bslA.bndT, Option.some.injEq] at hq; exact hq.symm
   | some q =>
    simp only [bslA.bndT] at hq
    split at hq
    ·rename_i v' hv'
     cases hq
     exact (ev_sound henv hH hv').1
    cases hq
  refine ⟨fun w1 => ?_, e3⟩
  have hbs := run_boundsA (P := P) (w := w1) (hbv _ _ _ hlo) (hbv _ _ _ hhi) (hbv _ _ _ hmx) (by cases mx <;> cases hi <;> first | rfl | (simp at hb)) h0
  unfold execOp
  rw [ho]
  simp only [Instr.sliceAt, e1, Sem.run_bind, Sem.run_pure, Result.andThen_ok, run_underlying F.hdesc, hd, Instr.sureAddr, hbs, run_sizeOf' G, AC.c, hv, sbAt]
  congr 2
  by_cases hkl : k.toNat = i.toNat
  ·rw [if_pos hkl, if_pos hkl]
  rw [if_neg hkl, if_neg hkl, add_pl]
theorem BSL (hT : TTok P tt) (i j k : Int) (m : Nat) (G : List (Bool × Bool)) (h : (bslA tt ops s l).map (fun z => (z.2.2.2.1, z.2.2.2.2.1, z.2.2.2.2.2.1, z.2.2.2.2.2.2.1, z.2.2.2.2.2.2.2.1)) = some (m, i, j, k, G)) (h0 : AllEq G → 0 ≤ i ∧ i ≤ j ∧ j ≤ k ∧ k ≤ (m : Int))
  (hp : (bslP tt ops s l).isSome = true) (hK : WPO P cx ops l.tail ((bslP tt ops s l).getD s) Q) : WPO P cx ops l s Q := by
 obtain ⟨r, hr, he⟩ := Option.map_eq_some_iff.1 h
 simp only [Prod.mk.injEq] at he
 obtain ⟨rfl, rfl, rfl, rfl, rfl⟩ := he
 obtain ⟨o, rest, rfl, hg, hd, hG, hrun⟩ := bsl_sound (P := P) hT hr
 obtain ⟨s', hs'⟩ := Option.isSome_iff_exists.1 hp
 rw [hs'] at hK
 simp only [bslP, hr, hd] at hs'
 exact WPO_val hg hs' (fun hp n a w hh henv hH => (fun h => ⟨h.1 w, h.2⟩) (hrun (h0 (by rw [hG]; exact tagP_all hp)) cx n a w hh henv hH)) hK
theorem QBSL (hT : TTok P tt) (i j k : Int) (m : Nat) (G : List (Bool × Bool)) (h : (bslA tt ops s l).map (fun z => (z.2.2.2.1, z.2.2.2.2.1, z.2.2.2.2.2.1, z.2.2.2.2.2.2.1, z.2.2.2.2.2.2.2.1)) = some (m, i, j, k, G)) (h0 : AllEq G → 0 ≤ i ∧ i ≤ j ∧ j ≤ k ∧ k ≤ (m : Int))
  (hp : (bslP tt ops s l).isSome = true) (hK : WPQ P cx ops l.tail ((bslP tt ops s l).getD s) Q) : WPQ P cx ops l s Q := by
 obtain ⟨r, hr, he⟩ := Option.map_eq_some_iff.1 h
 simp only [Prod.mk.injEq] at he
 obtain ⟨rfl, rfl, rfl, rfl, rfl⟩ := he
 obtain ⟨o, rest, rfl, hg, hd, hG, hrun⟩ := bsl_sound (P := P) hT hr
 obtain ⟨s', hs'⟩ := Option.isSome_iff_exists.1 hp
 rw [hs'] at hK
 simp only [bslP, hr, hd] at hs'
 exact WPQ_op hg hs' (fun hp n a w hh henv hH => (fun h => ⟨h.1 w, h.2⟩) (hrun (h0 (by rw [hG]; exact tagP_all hp)) cx n a w hh henv hH)) hK
theorem sb_reads {n : Vn} {w : World} (hh : HSat cx n s w) {id : Nat} {ty : TypeId} {cs : List AC} (hf : fnd s.hp id = some (.box ty cs)) {off i j k m : Nat} (h : i ≤ j ∧ j ≤ k ∧ k ≤ m) (hm : off + m ≤ cs.length) (hmx : m ≤ maxLen) {α : Type} (mk : α → AC) (mv : α → Value) (hmk : ∀ x, (mk x).c n = mv x) (xs : List α) (z : α) (hx : xs.length = j - i) (hcs : ∀ q, q < j - i → cs[off + i + q]? = (xs[q]?).map mk) :
  Reads w ((AC.sb id off 1 i j k).c n) 1 xs (fun x => [mv x]) z := by
 obtain ⟨g, hv, _, hheap⟩ := hh.ents _ (fnd_mem hf)
 simp only [AC.c, hv, sbAt]
 refine ⟨_, _, by rw [hx], by omega, by omega, fun hp => ⟨_, rfl, fun q hq o ho => ?_⟩⟩
 have hki : k ≠ i := by omega
 have ho0 : o = 0 := by omega
 subst ho0
 rw [if_neg hki]
 have hadd : (⟨g, off + i * 1, none⟩ : Addr).add (q * 1 + 0) = ⟨g, off + i + q, none⟩ := by
  unfold Addr.add
  split
  ·rename_i h0; simp at h0; simp [h0]
  simp
 rw [hadd, cell_of_row w g _ _ _ _ hheap]
 have := hcs q (by omega)
 rw [List.getElem?_eq_getElem hq] at this
 simp only [cellsV, List.getElem?_toArray, List.getElem?_map, this, Option.map_some, hmk]
 simp [List.getD_eq_getElem?_getD, List.getElem?_eq_getElem hq]
end
abbrev FrS (w : World) (G : Nat → Prop) (w' : World) : Prop := Fr w (fun k => G k ∨ w.heap.size ≤ k) w'
def Stab {α : Type} (J : List α → (Nat → Prop) → World → Prop) : Prop := ∀ pre G w1 w2, J pre G w1 → (∀ g, G g → w2.heap[g]? = w1.heap[g]?) → J pre G w2
def YieldOk {α : Type} (P : Program) (l : Nat) (encs : α → Array Value) (xs : List α) (RF : World → Prop) (J Jx : List α → (Nat → Prop) → World → Prop) : Prop :=
 ∀ pre x G w, pre ++ [x] <+: xs → J pre G w → RF w → ∀ r m, YieldAt (Fn r) m P l (encs x) w fun e w' =>
  ∃ G', (∀ g, G' g → G g ∨ w.heap.size ≤ g) ∧ (∀ g, G' g → g < w'.heap.size) ∧ FrS w G w' ∧ ((e = .returned (.bool true) ∧ J (pre ++ [x]) G' w') ∨ (e = .returned (.bool false) ∧ Jx (pre ++ [x]) G' w'))
theorem HE.foot_ok {n : Vn} {ok : Nat → Prop} {w : World} {x : Value} {e : HE} (hm : e.mut = true) (h : e.sat n ok w x) : ∀ g, e.foot x g → ok g := by
 intro g hg
 cases e with
 | box ty cs => obtain ⟨g', rfl, hk, _⟩ := h; cases hg; exact hk
 | lit e m cs => obtain ⟨g', rfl, hk, _⟩ := h; cases hg; exact hk
 | sl kd e sz l enc z => cases kd with
  | own => exact h.2.1 g hg
  | _ => cases hm
 | clo f u v => cases hm
 | pf F G => cases hm
 | jf F G => exact h.2.1 g hg
 | ob b o =>
  obtain ⟨g', rfl, hk, _⟩ := h
  cases b <;> (cases hg; exact hk)
theorem HE.sat_ok {n : Vn} {ok ok' : Nat → Prop} {w : World} {x : Value} {e : HE} (h : e.sat n ok w x) (hk : e.mut = true → ∀ g, e.foot x g → ok' g) : e.sat n ok' w x := by
 cases e with
 | box ty cs => obtain ⟨g', rfl, h1, h2⟩ := h; exact ⟨g', rfl, hk rfl _ rfl, h2⟩
 | lit e m cs => obtain ⟨g', rfl, h1, h2⟩ := h; exact ⟨g', rfl, hk rfl _ rfl, h2⟩
 | sl kd e sz l enc z => cases kd with
  | own => exact ⟨h.1, hk rfl, h.2.2⟩
  | ro => exact h
  | full => exact h
 | clo f u v => exact h
 | pf F G => exact h
 | jf F G => exact ⟨h.1, hk rfl, h.2.2⟩
 | ob b o =>
  obtain ⟨g', rfl, h1, h2⟩ := h
  exact ⟨g', rfl, hk rfl _ (by cases b <;> rfl), h2⟩
section
variable {P : Program} {tt : TT} {cx : Cx} {s s' : AS} {Q : Exit → AS → Prop} {ops : Array Oper} {l : List Oper} {n : Vn} {w w' : World}
theorem swap_list {L : List (Nat × HE)} {id : Nat} {G G' : Nat → Prop} {F F' : World → Prop} (h : fnd L id = some (.jf F G)) (hsat : ∀ x ∈ L, x.2.sat n cx.ok w (n x.1)) (hlt : ∀ x ∈ L, ∀ g, x.2.foot (n x.1) g → g < w.heap.size)
  (hsep : L.Pairwise fun x y => (x.2.mut = true ∨ y.2.mut = true) → ∀ g, x.2.foot (n x.1) g → ¬ y.2.foot (n y.1) g) (hz : w.heap.size ≤ w'.heap.size)
  (hw : ∀ k, k < w.heap.size → ¬ G k → w'.heap[k]? = w.heap[k]?) (hG : ∀ g, G' g → G g ∨ w.heap.size ≤ g) (hG' : ∀ g, G' g → g < w'.heap.size) (hnew : (HE.jf F' G').sat n cx.ok w' (n id)) :
  (∀ x ∈ rep L id (.jf F' G'), x.2.sat n cx.ok w' (n x.1)) ∧ (∀ x ∈ rep L id (.jf F' G'), ∀ g, x.2.foot (n x.1) g → g < w'.heap.size) ∧
  (rep L id (.jf F' G')).Pairwise fun x y => (x.2.mut = true ∨ y.2.mut = true) → ∀ g, x.2.foot (n x.1) g → ¬ y.2.foot (n y.1) g := by
 induction L with
 | nil => cases h
 | cons y r ih =>
  obtain ⟨hy, hr⟩ := List.pairwise_cons.1 hsep
  simp only [rep]
  rcases hb : Nat.beq y.1 id with _ | _
  ·simp only [fnd, hb, cond_false] at h ⊢
   obtain ⟨i1, i2, i3⟩ := ih h (fun x hx => hsat x (List.mem_cons_of_mem _ hx)) (fun x hx => hlt x (List.mem_cons_of_mem _ hx)) hr
   have hyG : ∀ g, y.2.foot (n y.1) g → ¬ G g := fun g hg hGg => hy _ (fnd_mem h) (.inr rfl) g hg hGg
   refine ⟨fun x hx => ?_, fun x hx => ?_, List.pairwise_cons.2 ⟨fun z hz' hm g hg hgz => ?_, i3⟩⟩
   ·rcases List.mem_cons.1 hx with rfl | hx
    ·exact HE.sat_move (hsat _ List.mem_cons_self) fun k hk => hw k (hlt _ List.mem_cons_self k hk) (hyG k hk)
    exact i1 x hx
   ·rcases List.mem_cons.1 hx with rfl | hx
    ·exact fun g hg => Nat.lt_of_lt_of_le (hlt _ List.mem_cons_self g hg) hz
    exact i2 x hx
   rcases rep_mem hz' with hz1 | rfl
   ·exact hy z hz1 hm g hg hgz
   rcases hG g hgz with h1 | h1
   ·exact hyG g hg h1
   have := hlt _ List.mem_cons_self g hg; omega
  simp only [fnd, hb, cond_true] at h ⊢
  have hid := Nat.eq_of_beq_eq_true hb
  obtain ⟨yi, ye⟩ := y
  simp only at hid h hy
  cases hid
  cases h
  have hxG : ∀ x ∈ r, ∀ g, x.2.foot (n x.1) g → ¬ G g := fun x hx g hg hGg => hy x hx (.inl rfl) g hGg hg
  refine ⟨fun x hx => ?_, fun x hx => ?_, List.pairwise_cons.2 ⟨fun z hz' hm g hg hgz => ?_, hr⟩⟩
  ·rcases List.mem_cons.1 hx with rfl | hx
   ·exact hnew
   exact HE.sat_move (hsat _ (List.mem_cons_of_mem _ hx)) fun k hk => hw k (hlt _ (List.mem_cons_of_mem _ hx) k hk) (hxG x hx k hk)
  ·rcases List.mem_cons.1 hx with rfl | hx
   ·exact hG'
   exact fun g hg => Nat.lt_of_lt_of_le (hlt _ (List.mem_cons_of_mem _ hx) g hg) hz
  rcases hG g hg with h1 | h1
  ·exact hxG z hz' g hgz h1
  have := hlt _ (List.mem_cons_of_mem _ hz') g hgz; omega
theorem more_rep {id : Nat} {e0 e : HE} (hf : fnd s.hp id = some e0) (hl : e0.len ≤ e.len) : More s { s with hp := rep s.hp id e } := ⟨Nat.le_refl _, fun j _ e' he => by
 by_cases hj : j = id
 ·subst hj
  have : Eng.fnd (Eng.rep s.hp j e) j = some e := fnd_rep_eq hf
  have he' : Eng.fnd (Eng.rep s.hp j e) j = some e' := he
  rw [this] at he'
  cases he'
  exact ⟨e0, hf, hl⟩
 exact ⟨e', by rw [← fnd_rep_ne (e := e) hj]; exact he, Nat.le_refl _⟩⟩
theorem HSat.swap (h : HSat cx n s w) {id : Nat} {G G' : Nat → Prop} {F F' : World → Prop} (hf : fnd s.hp id = some (.jf F G)) (hfr : FrS w G w') (hG : ∀ g, G' g → G g ∨ w.heap.size ≤ g) (hG' : ∀ g, G' g → g < w'.heap.size)
  (hF : F' w') (hst : ∀ w1 w2 : World, F' w1 → (∀ g, G' g → w2.heap[g]? = w1.heap[g]?) → F' w2) : HSat cx n { s with hp := rep s.hp id (.jf F' G') } w' := by
 have hj := h.ents _ (fnd_mem hf)
 have hok : ∀ g, G' g → cx.ok g := fun g hg => by
  rcases hG g hg with h1 | h1
  ·exact hj.2.1 g h1
  exact h.fr.news g (Nat.le_trans h.fr.size h1)
 obtain ⟨i1, i2, i3⟩ := swap_list (cx := cx) (w' := w') hf h.ents h.lt h.sep hfr.size (fun k hk hn => hfr.block k hk (fun h => h.elim hn (fun h => by omega))) hG hG' ⟨hF, hok, hst⟩
 have hmore := more_rep (e := .jf F' G') hf (Nat.le_refl _)
 refine ⟨⟨hfr.os.trans h.fr.os, hfr.tape.trans h.fr.tape, hfr.output.trans h.fr.output, Nat.le_trans h.fr.size hfr.size, fun k hk hn => (hfr.block k (Nat.lt_of_lt_of_le hk h.fr.size) ?_).trans (h.fr.block k hk hn), h.fr.news⟩, h.ini, h.inx, h.one, i1, fun x hx => ?_, i3, i2, fun x hx => ?_⟩
 ·rintro (h1 | h1)
  ·exact hn (hj.2.1 k h1)
  have := h.fr.size; omega
 ·rcases rep_mem hx with hx | rfl
  ·exact HE.ok_more (h.oks x hx) hmore
  trivial
 rcases rep_mem hx with hx | rfl
 ·exact h.ids x hx
 exact h.ids (id, .jf F G) (fnd_mem hf)
theorem wpListIn_append {r : Option Nat} {m : Nat} {Q1 : Act → World → Prop} {Q' : Exit → Act → World → Prop} : ∀ (l1 l2 : List Oper), (∀ o ∈ l1, ∀ c, o.op ≠ .defer c) → ∀ a w, wpList P ops (fun e a w => e = .normal ∧ Q1 a w) l1 a w →
  (∀ a w, Q1 a w → wpListIn (Fn r) m P ops Q' l2 a w) → wpListIn (Fn r) m P ops Q' (l1 ++ l2) a w
 | [], l2, _, a, w, h, hK => hK a w h.2
 | o :: l1, l2, hd, a, w, h, hK => by
  have hd' : ∀ o ∈ l1, ∀ c, o.op ≠ .defer c := fun o ho => hd o (List.mem_cons_of_mem _ ho)
  unfold wpList at h
  simp only [List.cons_append, wpListIn]
  split
  ·rename_i hw
   rw [if_pos hw] at h
   rcases h with h | h
   ·exact oper_in (hd o List.mem_cons_self) (wp_mono2 (fun a w h => wpListIn_append l1 l2 hd' a w h hK) (fun c a w h => by cases h.1) (fun h => by obtain ⟨_, _, h, _⟩ := h; cases h) h)
   obtain ⟨_, _, h, _⟩ := h.2; cases h
  rename_i hw
  rw [if_neg hw] at h
  exact ⟨fun _ _ => trivial, wpListIn_append l1 l2 hd' _ _ h hK⟩
theorem noDefer_mem (h : noDefer ops = true) {o : Oper} (ho : o ∈ ops.toList) : ∀ c, o.op ≠ .defer c := by
 obtain ⟨i, hi⟩ := List.mem_iff_getElem?.1 ho
 exact noDefer_spec h i o (by simpa using hi)
def yA (s : AS) : List Oper → Option (Nat × List AV × Option Tmp)
 | o :: _ => match o.op, o.guard with
  | .call c, none => match c.callee with
   | .value x => match ev s [] x, evl s [] c.args.toList with
    | some (.s (.v (.func (.yield L) a b))), some vs => bif Nat.beq a.size 0 && Nat.beq b.size 0 then some (L, vs, o.dst) else none
    | _, _ => none
   | _ => none
  | _, _ => none
 | [] => none
def yP (tt : TT) (ops : Array Oper) (s : AS) (l : List Oper) (id : Nat) (d : Option Tmp) (e : HE) (b : Bool) : Option AS :=
 match ({ s with hp := rep s.hp id e } : AS).put d [] (.s (.bool b)) with
 | some s2 => sts tt ops l.tail s2
 | none => none
theorem WP_yield (hT : TTok P tt) {rid : Nat} (k : Nat) {α : Type} (pre : List α) (x : α) (L id idR : Nat) (vs : List AV) (d : Option Tmp) (G GR : Nat → Prop) (encs : α → Array Value) (xs : List α) (RF : World → Prop) (J Jx : List α → (Nat → Prop) → World → Prop)
  (h1 : (sts tt ops (ops.toList.take k) s).isSome = true) (hy : yA ((sts tt ops (ops.toList.take k) s).getD s) (ops.toList.drop k) = some (L, vs, d))
  (hf : fnd ((sts tt ops (ops.toList.take k) s).getD s).hp id = some (.jf (J pre G) G)) (hr : fnd ((sts tt ops (ops.toList.take k) s).getD s).hp idR = some (.pf RF GR))
  (hJ : Stab J) (hJx : Stab Jx) (hY : YieldOk P L encs xs RF J Jx) (hx : pre ++ [x] <+: xs) (henc : ∀ n, encs x = (vs.map (AV.c n)).toArray)
  (hp : ∀ F' G' b, (yP tt ops ((sts tt ops (ops.toList.take k) s).getD s) (ops.toList.drop k) id d (.jf F' G') b).isSome = true)
  (hK : ∀ G', Q .normal ((yP tt ops ((sts tt ops (ops.toList.take k) s).getD s) (ops.toList.drop k) id d (.jf (J (pre ++ [x]) G') G') true).getD s))
  (hK' : ∀ G', Q .normal ((yP tt ops ((sts tt ops (ops.toList.take k) s).getD s) (ops.toList.drop k) id d (.jf (Jx (pre ++ [x]) G') G') false).getD s))
  (hd : noDefer ops = true := by kernel_rfl) : WP P cx s (.region rid ops false) Q := fun r m ht n a w hs => by
 obtain ⟨s1, h1'⟩ := Option.isSome_iff_exists.1 h1
 rw [h1'] at hy hf hr hp hK hK'
 simp only [Option.getD_some] at hy hf hr hp hK hK'
 refine wpIn_region_list ?_
 rw [← List.take_append_drop k ops.toList]
 have hpre : wpList P ops (fun e a w => e = .normal ∧ ∃ n, Sat cx n s1 a w) (ops.toList.take k) a w := by
  have := sts_sound (rest := []) hT hs h1' (Q := fun e a w => e = .normal ∧ ∃ n, Sat cx n s1 a w) fun n' a' w' hs' => wpList_nil ⟨rfl, n', hs'⟩
  rwa [List.append_nil] at this
 refine wpListIn_append _ _ (fun o ho => noDefer_mem hd (List.mem_of_mem_take ho)) a w hpre fun a w ⟨n, hs⟩ => ?_
 cases hl : ops.toList.drop k with
 | nil => rw [hl] at hy; cases hy
 | cons o rest =>
  rw [hl] at hy hp hK hK'
  have hdr : ∀ o' ∈ o :: rest, ∀ c, o'.op ≠ .defer c := fun o' ho' => noDefer_mem hd (List.mem_of_mem_drop (i := k) (by rw [hl]; exact ho'))
  simp only [yA] at hy
  split at hy <;> try (cases hy; done)
  rename_i c ho hg
  split at hy <;> try (cases hy; done)
  rename_i xo hc
  split at hy <;> try (cases hy; done)
  rename_i L' fa fb vs' hx' hvs
  rcases hb : (Nat.beq fa.size 0 && Nat.beq fb.size 0) with _ | _
  ·rw [hb] at hy; cases hy
  rw [hb] at hy
  simp only [cond_true, Option.some.injEq, Prod.mk.injEq] at hy
  obtain ⟨rfl, rfl, rfl⟩ := hy
  simp only [Bool.and_eq_true] at hb
  have hfa : fa = #[] := Array.eq_empty_of_size_eq_zero (Nat.eq_of_beq_eq_true hb.1)
  have hfb : fb = #[] := Array.eq_empty_of_size_eq_zero (Nat.eq_of_beq_eq_true hb.2)
  subst hfa hfb
  have hH : Holds a [] := fun x hx => by cases hx
  obtain ⟨e1, _⟩ := ev_sound hs.env hH hx'
  obtain ⟨e2, _⟩ := evl_sound hs.env hH hvs
  have hw : Region.wanted o (yielded ops a.tmps) = true := wanted_none (ops := ops) hg
  have hj := hs.heap.ents _ (fnd_mem hf)
  have hR := hs.heap.ents _ (fnd_mem hr)
  obtain ⟨fn, tmps, assign, body, hyr, hround⟩ := hY pre x G w hx hj.1 hR.1 r (m - 1)
  have hrun : (execOp a.eval o).run P w = .ok (.round L' fn tmps assign body) w := by
   unfold execOp
   rw [ho]
   rw [henc n] at hyr
   have h1 : c.args.map a.eval = (vs'.map (AV.c n)).toArray := by apply Array.ext'; simpa using e2
   simp only [AV.c, AC.c] at e1
   simp only [resolve, hc, h1, e1, Deferred.ofValue, Sem.run_bind, Sem.run_pure, Result.andThen_ok, invoke]
   simp [hyr]
  unfold wpListIn
  rw [if_pos hw]
  refine ⟨fun _ _ => trivial, ?_⟩
  rw [Oper.semAt_eq _ _ _ (hdr o List.mem_cons_self), hrun]
  simp only [Oper.uponIn]
  refine ⟨fun h => by simp [Fn, Fence.wide] at h, hround.mono fun e w' ⟨G', hG, hG', hfr, hres⟩ => ?_⟩
  have fin : ∀ (b : Bool) (F' : World → Prop), F' w' → (∀ w1 w2 : World, F' w1 → (∀ g, G' g → w2.heap[g]? = w1.heap[g]?) → F' w2) → Q .normal ((yP tt ops s1 (o :: rest) id o.dst (.jf F' G') b).getD s) → wpListIn (Fn r) m P ops (Post cx Q) rest (a.put o.dst (.bool b)) w' := fun b F' hF' hst hQ => by
   have hsw := hs.heap.swap (w' := w') hf hfr hG hG' hF' hst
   have hst2 := env_hp hs (more_rep (e := .jf F' G') hf (Nat.le_refl _)) hsw
   obtain ⟨s3, h3⟩ := Option.isSome_iff_exists.1 (hp F' G' b)
   rw [h3] at hQ
   simp only [yP, List.tail_cons] at h3
   split at h3
   ·rename_i s2 hs2
    have hsat2 := put_sat (x := .bool b) hst2 hs2 (fun _ => ⟨rfl, trivial⟩) (fun hn => absurd hH hn)
    have hpost : wpList P ops (fun e a w => e = .normal ∧ ∃ n, Sat cx n s3 a w) rest (a.put o.dst (.bool b)) w' := by
     have := sts_sound (rest := []) hT hsat2 h3 (Q := fun e a w => e = .normal ∧ ∃ n, Sat cx n s3 a w) fun n' a' w' hs' => wpList_nil ⟨rfl, n', hs'⟩
     rwa [List.append_nil] at this
    have := wpListIn_append (P := P) (ops := ops) (r := r) (m := m) (Q' := Post cx Q) rest [] (fun o' ho' => hdr o' (List.mem_cons_of_mem _ ho')) _ _ hpost fun a w ⟨n, hs⟩ => ⟨n, s3, hQ, hs⟩
    rwa [List.append_nil] at this
   cases h3
  rcases hres with ⟨rfl, hJ'⟩ | ⟨rfl, hJ'⟩
  ·exact fin true _ hJ' (fun w1 w2 h h' => hJ _ _ w1 w2 h h') (hK G')
  exact fin false _ hJ' (fun w1 w2 h h' => hJx _ _ w1 w2 h h') (hK' G')
end
abbrev Sep (n : Vn) (x y : Nat × HE) : Prop := (x.2.mut = true ∨ y.2.mut = true) → ∀ g, x.2.foot (n x.1) g → ¬ y.2.foot (n y.1) g
structure MSat (ok : Nat → Prop) (n : Vn) (M : List (Nat × HE)) (w : World) (G : Nat → Prop) : Prop where
 ents : ∀ x ∈ M, x.2.sat n ok w (n x.1)
 sep : M.Pairwise (Sep n)
 foot : ∀ g, G g ↔ ∃ x ∈ M, x.2.foot (n x.1) g
 here : ∀ g, G g → (w.heap[g]?).isSome = true
theorem MSat.move {ok : Nat → Prop} {n : Vn} {M : List (Nat × HE)} {w w' : World} {G : Nat → Prop} (h : MSat ok n M w G) (hw : ∀ g, G g → w'.heap[g]? = w.heap[g]?) : MSat ok n M w' G :=
 ⟨fun x hx => HE.sat_move (h.ents x hx) fun g hg => hw g ((h.foot g).2 ⟨x, hx, hg⟩), h.sep, h.foot, fun g hg => by rw [hw g hg]; exact h.here g hg⟩
theorem lt_of_some {w : World} {g : Nat} (h : (w.heap[g]?).isSome = true) : g < w.heap.size := by
 obtain ⟨o, ho⟩ := Option.isSome_iff_exists.1 h
 exact (Array.getElem?_eq_some_iff.1 ho).1
theorem some_of_lt {w : World} {g : Nat} (h : g < w.heap.size) : (w.heap[g]?).isSome = true := by
 rw [Array.getElem?_eq_getElem h]; rfl
theorem assemble {cx : Cx} {n nL : Vn} {m nt : Nat} {df : List Nat} {MU ro : List (Nat × HE)} {w : World} {G : Nat → Prop} {okA okR : Nat → Prop} (hfr : Fr cx.w0 cx.ok w) (hini : ∀ id, id < cx.m0 → n id = cx.n0 id) (hm0 : cx.m0 ≤ m) (hag : ∀ id, id < m → n id = nL id)
  (one : ∀ id, (n id).oneCell' = true) (hM : MSat okA n MU w G) (hok : ∀ g, G g → cx.ok g) (hRF : ∀ x ∈ ro, x.2.sat nL okR w (nL x.1)) (hGR : ∀ x ∈ ro, ∀ g, x.2.foot (nL x.1) g → (w.heap[g]?).isSome = true ∧ ¬ G g) (hro : ∀ x ∈ ro, x.2.mut = false)
  (hoks : ∀ x ∈ MU ++ ro, x.2.ok ⟨nt, [], MU ++ ro, m, df⟩) (hids : ∀ x ∈ MU ++ ro, x.1 < m) : HSat cx n ⟨nt, [], MU ++ ro, m, df⟩ w := by
 have hidr : ∀ x ∈ ro, n x.1 = nL x.1 := fun x hx => hag _ (hids x (List.mem_append_right _ hx))
 refine ⟨hfr, hini, hm0, one, fun x hx => ?_, hoks, ?_, fun x hx g hg => ?_, hids⟩
 ·rcases List.mem_append.1 hx with hx' | hx'
  ·exact HE.sat_ok (hM.ents x hx') fun _ g hg => hok g ((hM.foot g).2 ⟨x, hx', hg⟩)
  rw [hidr x hx']
  exact HE.sat_ok (HE.sat_congr (hoks x hx) (fun id hid => hag id hid) (hRF x hx')) fun hm => by rw [hro x hx'] at hm; cases hm
 ·refine List.pairwise_append.2 ⟨hM.sep, ?_, fun x hx y hy hm g hg hgy => ?_⟩
  ·exact List.pairwise_of_forall_mem_list fun x hx y hy hm => by rw [hro x hx, hro y hy] at hm; rcases hm with h | h <;> cases h
  rw [hidr y hy] at hgy
  exact (hGR y hy g hgy).2 ((hM.foot g).2 ⟨x, hx, hg⟩)
 rcases List.mem_append.1 hx with hx' | hx'
 ·exact lt_of_some (hM.here g ((hM.foot g).2 ⟨x, hx', hg⟩))
 rw [hidr x hx'] at hg
 exact lt_of_some (hGR x hx' g hg).1
def FP (n : Vn) (M : List (Nat × HE)) (g : Nat) : Prop := ∃ x ∈ M, x.2.foot (n x.1) g
theorem HSat.msat {cx : Cx} {n : Vn} {nt m : Nat} {E : List (Nat × List (Nat × Bool) × AV)} {df : List Nat} {MU ro : List (Nat × HE)} {w : World} (h : HSat cx n ⟨nt, E, MU ++ ro, m, df⟩ w) : MSat cx.ok n MU w (FP n MU) :=
 ⟨fun x hx => h.ents x (List.mem_append_left _ hx), (List.pairwise_append.1 h.sep).1, fun g => Iff.rfl, fun g ⟨x, hx, hg⟩ => some_of_lt (h.lt x (List.mem_append_left _ hx) g hg)⟩
theorem HSat.pick {cx : Cx} {n : Vn} {s : AS} {w : World} (h : HSat cx n s w) {l : List (Nat × HE)} (hs : SubP s.hp l) (hu : uniq l = true) (nt : Nat) (df : List Nat) : HSat cx n ⟨nt, [], l, s.nx, df⟩ w := by
 have hin : ∀ x ∈ l, x ∈ s.hp := fun x hx => fnd_mem (hs.all x hx)
 refine ⟨h.fr, h.ini, h.inx, h.one, fun x hx => h.ents x (hin x hx), fun x hx => HE.ok_fz (s0 := ⟨nt, [], l, s.nx, df⟩) (h.oks x (hin x hx)) ⟨Nat.le_refl _, hs, hu⟩ rfl, ?_, fun x hx => h.lt x (hin x hx), fun x hx => h.ids x (hin x hx)⟩
 refine (uniq_spec hu).imp_of_mem fun {x y} hx hy hne => ?_
 have hsym : ∀ (x y : Nat × HE), Sep n x y → Sep n y x := fun x y h hm g h1 h2 => h hm.symm g h2 h1
 exact pw_mem hsym h.sep (hin x hx) (hin y hy) (fun e => hne (congrArg (·.1) e))
def putAll : AS → List (Nat × AV) → Option AS
 | s, [] => some s
 | s, x :: r => match s.put (some x.1) [] x.2 with
  | some s' => putAll s' r
  | none => none
theorem putAll_sat {cx : Cx} {n : Vn} {w : World} {df : List Deferred} : ∀ (l : List (Nat × AV)) (s s' : AS) (tmps : Array Value), Sat cx n s ⟨tmps, df⟩ w → putAll s l = some s' → (∀ x ∈ l, okB s x.2 = true) →
  Sat cx n s' ⟨(l.map fun x => (x.1, x.2.c n)).foldl (fun t x => t.setIfInBounds x.1 x.2) tmps, df⟩ w
 | [], s, s', tmps, hs, h, _ => by simp only [putAll] at h; cases h; exact hs
 | x :: r, s, s', tmps, hs, h, hok => by
  simp only [putAll] at h
  split at h
  ·rename_i s1 h1
   have hH : Holds ⟨tmps, df⟩ [] := fun x hx => by cases hx
   have h2 := put_sat (x := x.2.c n) hs h1 (fun _ => ⟨rfl, okB_sound (hok x List.mem_cons_self)⟩) (fun hn => absurd hH hn)
   have hsame := put_same h1
   have hokk : ∀ v : AV, okB s v = okB s1 v := fun v => by
    have hc : ∀ c, okB.c1 s c = okB.c1 s1 c := fun c => by cases c <;> simp only [okB.c1, hsame.2.1]
    have hcl : ∀ cs, okB.cl s cs = okB.cl s1 cs := fun cs => by induction cs with | nil => rfl | cons c r ih => simp only [okB.cl, hc, ih]
    cases v with
    | s c => exact hc c
    | g cs => exact hcl cs
    | t vs => simp only [okB]; induction vs with | nil => rfl | cons c r ih => simp only [okB.tl, hcl, ih]
   exact putAll_sat r s1 s' _ h2 h (fun y hy => by rw [← hokk]; exact hok y (List.mem_cons_of_mem _ hy))
  cases h
def envSel (s : AS) : List Nat → Option (List (Nat × List (Nat × Bool) × AV))
 | [] => some []
 | t :: r => match look s.env t, envSel s r with
  | some ([], v), some l => bif okB s v then some ((t, [], v) :: l) else none
  | _, _ => none
theorem envSel_spec {s : AS} {ts : List Nat} {l : List (Nat × List (Nat × Bool) × AV)} (h : envSel s ts = some l) : ∀ x ∈ l, x ∈ s.env ∧ x.2.1 = [] ∧ okB s x.2.2 = true := by
 induction ts generalizing l with
 | nil => simp only [envSel] at h; cases h; intro x hx; cases hx
 | cons t r ih =>
  simp only [envSel] at h
  split at h
  ·rename_i v l' hv hl
   rcases hb : okB s v with _ | _
   ·rw [hb] at h; cases h
   rw [hb] at h; cases h
   intro x hx
   rcases List.mem_cons.1 hx with rfl | hx
   ·exact ⟨look_mem hv, rfl, hb⟩
   exact ih hl x hx
  cases h
theorem okB_nx {s s1 : AS} (h : s.nx ≤ s1.nx) {v : AV} (hv : okB s v = true) : okB s1 v = true := by
 have hc : ∀ c, okB.c1 s c = true → okB.c1 s1 c = true := fun c hc => by
  cases c <;> simp only [okB.c1] at * <;> first | exact Nat.ble_eq_true_of_le (Nat.le_trans (Nat.le_of_ble_eq_true hc) h) | exact hc
 have hcl : ∀ cs, okB.cl s cs = true → okB.cl s1 cs = true := fun cs => by
  induction cs with
  | nil => intro _; rfl
  | cons c r ih => intro h; simp only [okB.cl, Bool.and_eq_true] at *; exact ⟨hc c h.1, ih h.2⟩
 cases v with
 | s c => exact hc c hv
 | g cs => exact hcl cs hv
 | t vs =>
  simp only [okB] at *
  induction vs with
  | nil => rfl
  | cons c r ih => simp only [okB.tl, Bool.and_eq_true] at *; exact ⟨hcl _ hv.1, ih hv.2⟩
def heOk (s : AS) : HE → Bool
 | .box _ cs => okB.cl s cs
 | .lit _ _ cs => okB.cl s cs
 | .clo _ u v => go u && go v
 | _ => true
where go : List AV → Bool
 | [] => true
 | v :: r => okB s v && go r
theorem heOk_go {s : AS} {u : List AV} (h : heOk.go s u = true) : ∀ x ∈ u, okB s x = true := by
 induction u with
 | nil => intro x hx; cases hx
 | cons v r ih =>
  simp only [heOk.go, Bool.and_eq_true] at h
  intro x hx
  rcases List.mem_cons.1 hx with rfl | hx
  ·exact h.1
  exact ih h.2 x hx
theorem heOk_sound {s s1 : AS} (hn : s.nx ≤ s1.nx) {e : HE} (h : heOk s e = true) : e.ok s1 := by
 have hcl : ∀ cs, okB.cl s cs = true → cellsOk s1 cs := fun cs h => by
  have : okB s (.g cs) = true := h
  exact okB_sound (v := .g cs) (okB_nx hn this)
 cases e with
 | box ty cs => exact hcl cs h
 | lit e m cs => exact hcl cs h
 | clo f u v =>
  simp only [heOk, Bool.and_eq_true] at h
  exact ⟨fun x hx => okB_sound (okB_nx hn (heOk_go h.1 x hx)), fun x hx => okB_sound (okB_nx hn (heOk_go h.2 x hx))⟩
 | _ => trivial
def mOk (s : AS) (nx : Nat) : List (Nat × HE) → Bool
 | [] => true
 | x :: r => x.2.mut && heOk s x.2 && Nat.ble (x.1 + 1) nx && mOk s nx r
def rOk (s : AS) (nx : Nat) : List (Nat × HE) → Bool
 | [] => true
 | x :: r => !x.2.mut && heOk s x.2 && Nat.ble (x.1 + 1) nx && rOk s nx r
theorem mOk_spec {s : AS} {nx : Nat} {l : List (Nat × HE)} (h : mOk s nx l = true) : ∀ x ∈ l, x.2.mut = true ∧ heOk s x.2 = true ∧ x.1 < nx := by
 induction l with
 | nil => intro x hx; cases hx
 | cons y r ih =>
  simp only [mOk, Bool.and_eq_true] at h
  intro x hx
  rcases List.mem_cons.1 hx with rfl | hx
  ·exact ⟨h.1.1.1, h.1.1.2, Nat.le_of_ble_eq_true h.1.2⟩
  exact ih h.2 x hx
theorem rOk_spec {s : AS} {nx : Nat} {l : List (Nat × HE)} (h : rOk s nx l = true) : ∀ x ∈ l, x.2.mut = false ∧ heOk s x.2 = true ∧ x.1 < nx := by
 induction l with
 | nil => intro x hx; cases hx
 | cons y r ih =>
  simp only [rOk, Bool.and_eq_true, Bool.not_eq_true'] at h
  intro x hx
  rcases List.mem_cons.1 hx with rfl | hx
  ·exact ⟨h.1.1.1, h.1.1.2, Nat.le_of_ble_eq_true h.1.2⟩
  exact ih h.2 x hx
def IterOk (P : Program) {α : Type} (gf : Nat) (caps : List AV) (it ro : List (Nat × HE)) (nx : Nat) (encs : α → Array Value) (xs : List α) : Prop :=
 ∀ (cx : Cx) (n : Vn) (w : World) (L : Nat) (RF : World → Prop) (GR : Nat → Prop) (J Jx : List α → (Nat → Prop) → World → Prop) (G0 : Nat → Prop), Stab J → Stab Jx → YieldOk P L encs xs RF J Jx →
  HSat cx n ⟨0, [], (nx, .jf (J [] G0) G0) :: (nx + 1, .pf RF GR) :: (it ++ ro), nx + 2, []⟩ w →
  Calls P gf (#[.func (.yield L) #[] #[]] ++ (caps.map (AV.c n)).toArray) w fun e w' => (∃ v, e = .returned v) ∧ ∃ n' G' pre, (∀ id, id < nx + 2 → n' id = n id) ∧
   ((pre = xs ∧ HSat cx n' ⟨0, [], [(nx, .jf (J pre G') G'), (nx + 1, .pf RF GR)], nx + 2, []⟩ w') ∨ (pre <+: xs ∧ HSat cx n' ⟨0, [], [(nx, .jf (Jx pre G') G'), (nx + 1, .pf RF GR)], nx + 2, []⟩ w'))
def RQ (cx : Cx) (nt nx : Nat) (jL jD : HE) (Mn : List (Nat × HE)) (Mx : Code → Option (List (Nat × HE))) (ro : List (Nat × HE)) : Exit → AS → Prop
 | .normal, s => Le cx s ⟨nt, [], (nx, jL) :: (nx + 1, jD) :: (Mn ++ ro), nx + 2, []⟩
 | .ret, s => ∃ Mr, Mx .ret = some Mr ∧ Le cx s ⟨nt, [], (nx, jL) :: (nx + 1, jD) :: (Mr ++ ro), nx + 2, []⟩
 | .exit i, s => ∃ Mr, Mx (.exit i) = some Mr ∧ Le cx s ⟨nt, [], (nx, jL) :: (nx + 1, jD) :: (Mr ++ ro), nx + 2, []⟩
 | .goto i, s => ∃ Mr, Mx (.goto i) = some Mr ∧ Le cx s ⟨nt, [], (nx, jL) :: (nx + 1, jD) :: (Mr ++ ro), nx + 2, []⟩
 | _, _ => False
def JG (ok : Nat → Prop) (nL : Vn) (nx L D B : Nat) (G0 : Nat → Prop) (F : World → Prop) (Ms : List (Nat × HE)) (G : Nat → Prop) (w : World) : Prop :=
 ∃ n : Vn, (∀ id, id < nx + 2 → n id = nL id) ∧ (∀ id, (n id).oneCell' = true) ∧ (∀ g, G g → G0 g ∨ B ≤ g) ∧
  MSat ok n ((nx, .jf F (· = L)) :: (nx + 1, .jf (fun w => w.heap[D]? = some (.deferred (some []))) (· = D)) :: Ms) w G
theorem JG.stab {ok : Nat → Prop} {nL : Vn} {nx L D B : Nat} {G0 : Nat → Prop} {F : World → Prop} {Ms : List (Nat × HE)} {G : Nat → Prop} {w1 w2 : World} (h : JG ok nL nx L D B G0 F Ms G w1) (hw : ∀ g, G g → w2.heap[g]? = w1.heap[g]?) : JG ok nL nx L D B G0 F Ms G w2 := by
 obtain ⟨n, h1, h2, h3, h4⟩ := h
 exact ⟨n, h1, h2, h3, h4.move hw⟩
end Go.Proofs.YtpfglknbkpcfnaaDoor.Eng
