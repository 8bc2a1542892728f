/-
  CrossingLeast: for every book and every three numbers the law returns true, and leaves them as they were. Conditions: none but the row's own.
-/
import Derived.Test.YtpfglknbkpcfnaaDoorCrossingLeastA4
import Derived.ArgAppend
import Derived.Below
import Derived.Carry
import Derived.ChangeKeysEq
import Derived.ControlIn
import Derived.Deep.DeepHandedRow
import Derived.Deep.DeepWitnessRowRef
import Derived.Deep.Draws
import Derived.Deep.Quiet
import Derived.Deep.Slices
import Derived.KernelRfl
import Derived.LaidMore
import Derived.Laws.AppendOwn
import Derived.Laws.Cells
import Derived.Laws.CopyRow
import Derived.Laws.IdiomCopy
import Derived.Laws.IdiomRangeMap
import Derived.Laws.OwnMore
import Derived.Laws.Rows
import Derived.MapKept
import Derived.Maps.AppendAt
import Derived.OpenShut
import Derived.OrdersHeld
import Derived.OrdersIn
import Derived.ProofKit
import Derived.RangeFuncLeaves
import Derived.RangeFuncNested
import Derived.RangeFuncOwn
import Derived.SevenTiedAt
import Derived.SizedLaws
import Derived.Stop.Joined
import Derived.Test.YtpfglknbkpcfnaaDoorCards
import Derived.Test.YtpfglknbkpcfnaaDoorProg
import Derived.Test.YtpfglknbkpcfnaaDoorRows
import Derived.Test.YtpfglknbkpcfnaaDoorTie
import Derived.WalkKit
import Derived.WideKeyRuns
set_option linter.all false
namespace Go.Proofs.YtpfglknbkpcfnaaDoor.X
open Go Go.ChangeShapes Go.WideShapes Go.RowKit Go.Proofs.YtpfglknbkpcfnaaDoor.Eng Go.Proofs.YtpfglknbkpcfnaaDoor.Fw
set_option maxRecDepth 100000
theorem app_eq {a b c d : List Value} (h : a = b) (k : c = d) : a ++ c = b ++ d := by rw [h, k]
theorem opn3 {w : World} : Opn Tryd.prog w 3 (fun cs => ∃ (b : Int), cs = [iv b] ∧ i64B b ∧ True) := (Opn_int Tryd.underlying3).mono fun cs ⟨n, h1, h2⟩ => ⟨n, h1, h2, trivial⟩
theorem opn24 {w : World} : Opn Tryd.prog w 24 (fun cs => ∃ (b : Span), cs = [iv b.lo, iv b.hi] ∧ i64B b.lo ∧ i64B b.hi ∧ True) :=
  (Opn_parts (P := Tryd.prog) (w := w) [⟨0, 3, 1, (fun cs => ∃ (b : Int), cs = [iv b] ∧ i64B b ∧ True)⟩, ⟨1, 3, 1, (fun cs => ∃ (b : Int), cs = [iv b] ∧ i64B b ∧ True)⟩] 2 Tryd.underlying24 (by kernel_rfl) (by kernel_rfl) ⟨opn3, opn3, trivial⟩).mono fun cs h => by
    obtain ⟨hl, ⟨b0, e0, f0_0, _⟩, ⟨b1, e1, f1_0, _⟩, _⟩ := h
    exact ⟨(⟨b0, b1⟩ : Span), (tl 0 1 cs).trans (app_eq e0 ((tl 1 1 cs).trans (app_eq e1 (tlz hl)))), f0_0, f1_0, trivial⟩
theorem opn22 {w : World} : Opn Tryd.prog w 22 (fun cs => ∃ (g0 : Value) (b : List Span), cs = [g0] ∧ (Reads w g0 2 b encSpan zSpan ∧ (∀ a ∈ b, i64B a.lo ∧ i64B a.hi) ∧ b.length * 16 ≤ reachBytes) ∧ True) := (Opn_slice (encA := encSpan) (z := zSpan) (ok := (fun a : Span => i64B a.lo ∧ i64B a.hi)) (sz := 2) Tryd.underlying22 (by kernel_rfl) (opn24.mono fun cs ⟨a, h1, k0, k1, _⟩ => ⟨a, h1, ⟨k0, k1⟩⟩)).mono fun cs ⟨v, l, h1, h2, h3, h4⟩ => ⟨v, l, h1, ⟨h2, h3, h4⟩, trivial⟩
theorem opn26 {w : World} : Opn Tryd.prog w 26 (fun cs => ∃ (b : LShore), cs = [iv b.fl.lo, iv b.fl.hi, iv b.lo, iv b.hi] ∧ i64B b.fl.lo ∧ i64B b.fl.hi ∧ i64B b.lo ∧ i64B b.hi ∧ True) :=
  (Opn_parts (P := Tryd.prog) (w := w) [⟨0, 24, 2, (fun cs => ∃ (b : Span), cs = [iv b.lo, iv b.hi] ∧ i64B b.lo ∧ i64B b.hi ∧ True)⟩, ⟨2, 3, 1, (fun cs => ∃ (b : Int), cs = [iv b] ∧ i64B b ∧ True)⟩, ⟨3, 3, 1, (fun cs => ∃ (b : Int), cs = [iv b] ∧ i64B b ∧ True)⟩] 4 Tryd.underlying26 (by kernel_rfl) (by kernel_rfl) ⟨opn24, opn3, opn3, trivial⟩).mono fun cs h => by
    obtain ⟨hl, ⟨b0, e0, f0_0, f0_1, _⟩, ⟨b1, e1, f1_0, _⟩, ⟨b2, e2, f2_0, _⟩, _⟩ := h
    exact ⟨(⟨b0, b1, b2⟩ : LShore), (tl 0 2 cs).trans (app_eq e0 ((tl 2 1 cs).trans (app_eq e1 ((tl 3 1 cs).trans (app_eq e2 (tlz hl)))))), f0_0, f0_1, f1_0, f2_0, trivial⟩
theorem opn27 {w : World} : Opn Tryd.prog w 27 (fun cs => ∃ (b : LShore × LShore), cs = [iv b.1.fl.lo, iv b.1.fl.hi, iv b.1.lo, iv b.1.hi, iv b.2.fl.lo, iv b.2.fl.hi, iv b.2.lo, iv b.2.hi] ∧ i64B b.1.fl.lo ∧ i64B b.1.fl.hi ∧ i64B b.1.lo ∧ i64B b.1.hi ∧ i64B b.2.fl.lo ∧ i64B b.2.fl.hi ∧ i64B b.2.lo ∧ i64B b.2.hi ∧ True) :=
  (Opn_arr (P := Tryd.prog) (w := w) 4 8 _ Tryd.underlying27 (by kernel_rfl) (by kernel_rfl) opn26).mono fun cs h => by
    obtain ⟨hl, h⟩ := h
    obtain ⟨b0, e0, f0_0, f0_1, f0_2, f0_3, _⟩ := h 0 (by decide)
    obtain ⟨b1, e1, f1_0, f1_1, f1_2, f1_3, _⟩ := h 1 (by decide)
    exact ⟨(b0, b1), (tl 0 4 cs).trans (app_eq e0 ((tl 4 4 cs).trans (app_eq e1 (tlz hl)))), f0_0, f0_1, f0_2, f0_3, f1_0, f1_1, f1_2, f1_3, trivial⟩
theorem opn112 {w : World} : Opn Tryd.prog w 112 (fun cs => ∃ (b : LSound), cs = [iv b.hr, iv b.sh, iv b.dp] ∧ i64B b.hr ∧ i64B b.sh ∧ i64B b.dp ∧ True) :=
  (Opn_parts (P := Tryd.prog) (w := w) [⟨0, 3, 1, (fun cs => ∃ (b : Int), cs = [iv b] ∧ i64B b ∧ True)⟩, ⟨1, 3, 1, (fun cs => ∃ (b : Int), cs = [iv b] ∧ i64B b ∧ True)⟩, ⟨2, 3, 1, (fun cs => ∃ (b : Int), cs = [iv b] ∧ i64B b ∧ True)⟩] 3 Tryd.underlying112 (by kernel_rfl) (by kernel_rfl) ⟨opn3, opn3, opn3, trivial⟩).mono fun cs h => by
    obtain ⟨hl, ⟨b0, e0, f0_0, _⟩, ⟨b1, e1, f1_0, _⟩, ⟨b2, e2, f2_0, _⟩, _⟩ := h
    exact ⟨(⟨b0, b1, b2⟩ : LSound), (tl 0 1 cs).trans (app_eq e0 ((tl 1 1 cs).trans (app_eq e1 ((tl 2 1 cs).trans (app_eq e2 (tlz hl)))))), f0_0, f1_0, f2_0, trivial⟩
theorem opn28 {w : World} : Opn Tryd.prog w 28 (fun cs => ∃ (g0 : Value) (b : List LSound), cs = [g0] ∧ (Reads w g0 3 b encSound zSound ∧ (∀ a ∈ b, i64B a.hr ∧ i64B a.sh ∧ i64B a.dp) ∧ b.length * 24 ≤ reachBytes) ∧ True) := (Opn_slice (encA := encSound) (z := zSound) (ok := (fun a : LSound => i64B a.hr ∧ i64B a.sh ∧ i64B a.dp)) (sz := 3) Tryd.underlying28 (by kernel_rfl) (opn112.mono fun cs ⟨a, h1, k0, k1, k2, _⟩ => ⟨a, h1, ⟨k0, k1, k2⟩⟩)).mono fun cs ⟨v, l, h1, h2, h3, h4⟩ => ⟨v, l, h1, ⟨h2, h3, h4⟩, trivial⟩
theorem opn30 {w : World} : Opn Tryd.prog w 30 (fun cs => ∃ (g0 g1 : Value) (b : LBook), cs = [g0, iv b.shores.1.fl.lo, iv b.shores.1.fl.hi, iv b.shores.1.lo, iv b.shores.1.hi, iv b.shores.2.fl.lo, iv b.shores.2.fl.hi, iv b.shores.2.lo, iv b.shores.2.hi, iv b.empty.lo, iv b.empty.hi, iv b.sink, iv b.under, g1] ∧ (Reads w g0 2 b.tides encSpan zSpan ∧ (∀ a ∈ b.tides, i64B a.lo ∧ i64B a.hi) ∧ b.tides.length * 16 ≤ reachBytes) ∧ (Reads w g1 3 b.sounds encSound zSound ∧ (∀ a ∈ b.sounds, i64B a.hr ∧ i64B a.sh ∧ i64B a.dp) ∧ b.sounds.length * 24 ≤ reachBytes) ∧ i64B b.shores.1.fl.lo ∧ i64B b.shores.1.fl.hi ∧ i64B b.shores.1.lo ∧ i64B b.shores.1.hi ∧ i64B b.shores.2.fl.lo ∧ i64B b.shores.2.fl.hi ∧ i64B b.shores.2.lo ∧ i64B b.shores.2.hi ∧ i64B b.empty.lo ∧ i64B b.empty.hi ∧ i64B b.sink ∧ i64B b.under ∧ True) :=
  (Opn_parts (P := Tryd.prog) (w := w) [⟨0, 22, 1, (fun cs => ∃ (g0 : Value) (b : List Span), cs = [g0] ∧ (Reads w g0 2 b encSpan zSpan ∧ (∀ a ∈ b, i64B a.lo ∧ i64B a.hi) ∧ b.length * 16 ≤ reachBytes) ∧ True)⟩, ⟨1, 27, 8, (fun cs => ∃ (b : LShore × LShore), cs = [iv b.1.fl.lo, iv b.1.fl.hi, iv b.1.lo, iv b.1.hi, iv b.2.fl.lo, iv b.2.fl.hi, iv b.2.lo, iv b.2.hi] ∧ i64B b.1.fl.lo ∧ i64B b.1.fl.hi ∧ i64B b.1.lo ∧ i64B b.1.hi ∧ i64B b.2.fl.lo ∧ i64B b.2.fl.hi ∧ i64B b.2.lo ∧ i64B b.2.hi ∧ True)⟩, ⟨9, 24, 2, (fun cs => ∃ (b : Span), cs = [iv b.lo, iv b.hi] ∧ i64B b.lo ∧ i64B b.hi ∧ True)⟩, ⟨11, 3, 1, (fun cs => ∃ (b : Int), cs = [iv b] ∧ i64B b ∧ True)⟩, ⟨12, 3, 1, (fun cs => ∃ (b : Int), cs = [iv b] ∧ i64B b ∧ True)⟩, ⟨13, 28, 1, (fun cs => ∃ (g0 : Value) (b : List LSound), cs = [g0] ∧ (Reads w g0 3 b encSound zSound ∧ (∀ a ∈ b, i64B a.hr ∧ i64B a.sh ∧ i64B a.dp) ∧ b.length * 24 ≤ reachBytes) ∧ True)⟩] 14 Tryd.underlying30 (by kernel_rfl) (by kernel_rfl) ⟨opn22, opn27, opn24, opn3, opn3, opn28, trivial⟩).mono fun cs h => by
    obtain ⟨hl, ⟨p0_0, b0, e0, f0_0, _⟩, ⟨b1, e1, f1_0, f1_1, f1_2, f1_3, f1_4, f1_5, f1_6, f1_7, _⟩, ⟨b2, e2, f2_0, f2_1, _⟩, ⟨b3, e3, f3_0, _⟩, ⟨b4, e4, f4_0, _⟩, ⟨p5_0, b5, e5, f5_0, _⟩, _⟩ := h
    exact ⟨p0_0, p5_0, (⟨b0, b1, b2, b3, b4, b5⟩ : LBook), (tl 0 1 cs).trans (app_eq e0 ((tl 1 8 cs).trans (app_eq e1 ((tl 9 2 cs).trans (app_eq e2 ((tl 11 1 cs).trans (app_eq e3 ((tl 12 1 cs).trans (app_eq e4 ((tl 13 1 cs).trans (app_eq e5 (tlz hl)))))))))))), f0_0, f5_0, f1_0, f1_1, f1_2, f1_3, f1_4, f1_5, f1_6, f1_7, f2_0, f2_1, f3_0, f4_0, trivial⟩
theorem opn103 {w : World} : Opn Tryd.prog w 103 (fun cs => ∃ (b : Ship), cs = [iv b.m, iv b.aw.lo, iv b.aw.hi, iv b.sp.lo, iv b.sp.hi] ∧ i64B b.m ∧ i64B b.aw.lo ∧ i64B b.aw.hi ∧ i64B b.sp.lo ∧ i64B b.sp.hi ∧ True) :=
  (Opn_parts (P := Tryd.prog) (w := w) [⟨0, 3, 1, (fun cs => ∃ (b : Int), cs = [iv b] ∧ i64B b ∧ True)⟩, ⟨1, 24, 2, (fun cs => ∃ (b : Span), cs = [iv b.lo, iv b.hi] ∧ i64B b.lo ∧ i64B b.hi ∧ True)⟩, ⟨3, 24, 2, (fun cs => ∃ (b : Span), cs = [iv b.lo, iv b.hi] ∧ i64B b.lo ∧ i64B b.hi ∧ True)⟩] 5 Tryd.underlying103 (by kernel_rfl) (by kernel_rfl) ⟨opn3, opn24, opn24, trivial⟩).mono fun cs h => by
    obtain ⟨hl, ⟨b0, e0, f0_0, _⟩, ⟨b1, e1, f1_0, f1_1, _⟩, ⟨b2, e2, f2_0, f2_1, _⟩, _⟩ := h
    exact ⟨(⟨b0, b1, b2⟩ : Ship), (tl 0 1 cs).trans (app_eq e0 ((tl 1 2 cs).trans (app_eq e1 ((tl 3 2 cs).trans (app_eq e2 (tlz hl)))))), f0_0, f1_0, f1_1, f2_0, f2_1, trivial⟩
theorem opn31 {w : World} : Opn Tryd.prog w 31 (fun cs => ∃ (g0 : Value) (b : List Ship), cs = [g0] ∧ (Reads w g0 5 b encShip zShip ∧ (∀ a ∈ b, i64B a.m ∧ i64B a.aw.lo ∧ i64B a.aw.hi ∧ i64B a.sp.lo ∧ i64B a.sp.hi) ∧ b.length * 40 ≤ reachBytes) ∧ True) := (Opn_slice (encA := encShip) (z := zShip) (ok := (fun a : Ship => i64B a.m ∧ i64B a.aw.lo ∧ i64B a.aw.hi ∧ i64B a.sp.lo ∧ i64B a.sp.hi)) (sz := 5) Tryd.underlying31 (by kernel_rfl) (opn103.mono fun cs ⟨a, h1, k0, k1, k2, k3, k4, _⟩ => ⟨a, h1, ⟨k0, k1, k2, k3, k4⟩⟩)).mono fun cs ⟨v, l, h1, h2, h3, h4⟩ => ⟨v, l, h1, ⟨h2, h3, h4⟩, trivial⟩
theorem opn105 {w : World} : Opn Tryd.prog w 105 (fun cs => ∃ (b : Sight), cs = [iv b.ship, iv b.m, iv b.aw.lo, iv b.aw.hi] ∧ i64B b.ship ∧ i64B b.m ∧ i64B b.aw.lo ∧ i64B b.aw.hi ∧ True) :=
  (Opn_parts (P := Tryd.prog) (w := w) [⟨0, 3, 1, (fun cs => ∃ (b : Int), cs = [iv b] ∧ i64B b ∧ True)⟩, ⟨1, 3, 1, (fun cs => ∃ (b : Int), cs = [iv b] ∧ i64B b ∧ True)⟩, ⟨2, 24, 2, (fun cs => ∃ (b : Span), cs = [iv b.lo, iv b.hi] ∧ i64B b.lo ∧ i64B b.hi ∧ True)⟩] 4 Tryd.underlying105 (by kernel_rfl) (by kernel_rfl) ⟨opn3, opn3, opn24, trivial⟩).mono fun cs h => by
    obtain ⟨hl, ⟨b0, e0, f0_0, _⟩, ⟨b1, e1, f1_0, _⟩, ⟨b2, e2, f2_0, f2_1, _⟩, _⟩ := h
    exact ⟨(⟨b0, b1, b2⟩ : Sight), (tl 0 1 cs).trans (app_eq e0 ((tl 1 1 cs).trans (app_eq e1 ((tl 2 2 cs).trans (app_eq e2 (tlz hl)))))), f0_0, f1_0, f2_0, f2_1, trivial⟩
theorem opn32 {w : World} : Opn Tryd.prog w 32 (fun cs => ∃ (g0 : Value) (b : List Sight), cs = [g0] ∧ (Reads w g0 4 b encSight zSight ∧ (∀ a ∈ b, i64B a.ship ∧ i64B a.m ∧ i64B a.aw.lo ∧ i64B a.aw.hi) ∧ b.length * 32 ≤ reachBytes) ∧ True) := (Opn_slice (encA := encSight) (z := zSight) (ok := (fun a : Sight => i64B a.ship ∧ i64B a.m ∧ i64B a.aw.lo ∧ i64B a.aw.hi)) (sz := 4) Tryd.underlying32 (by kernel_rfl) (opn105.mono fun cs ⟨a, h1, k0, k1, k2, k3, _⟩ => ⟨a, h1, ⟨k0, k1, k2, k3⟩⟩)).mono fun cs ⟨v, l, h1, h2, h3, h4⟩ => ⟨v, l, h1, ⟨h2, h3, h4⟩, trivial⟩
theorem opn34 {w : World} : Opn Tryd.prog w 34 (fun cs => ∃ (g0 g1 : Value) (b : Book), cs = [g0, iv b.hear.lo, iv b.hear.hi, iv b.br, iv b.cr, iv b.sl, g1] ∧ (Reads w g0 5 b.ships encShip zShip ∧ (∀ a ∈ b.ships, i64B a.m ∧ i64B a.aw.lo ∧ i64B a.aw.hi ∧ i64B a.sp.lo ∧ i64B a.sp.hi) ∧ b.ships.length * 40 ≤ reachBytes) ∧ (Reads w g1 4 b.sights encSight zSight ∧ (∀ a ∈ b.sights, i64B a.ship ∧ i64B a.m ∧ i64B a.aw.lo ∧ i64B a.aw.hi) ∧ b.sights.length * 32 ≤ reachBytes) ∧ i64B b.hear.lo ∧ i64B b.hear.hi ∧ i64B b.br ∧ i64B b.cr ∧ i64B b.sl ∧ True) :=
  (Opn_parts (P := Tryd.prog) (w := w) [⟨0, 31, 1, (fun cs => ∃ (g0 : Value) (b : List Ship), cs = [g0] ∧ (Reads w g0 5 b encShip zShip ∧ (∀ a ∈ b, i64B a.m ∧ i64B a.aw.lo ∧ i64B a.aw.hi ∧ i64B a.sp.lo ∧ i64B a.sp.hi) ∧ b.length * 40 ≤ reachBytes) ∧ True)⟩, ⟨1, 24, 2, (fun cs => ∃ (b : Span), cs = [iv b.lo, iv b.hi] ∧ i64B b.lo ∧ i64B b.hi ∧ True)⟩, ⟨3, 3, 1, (fun cs => ∃ (b : Int), cs = [iv b] ∧ i64B b ∧ True)⟩, ⟨4, 3, 1, (fun cs => ∃ (b : Int), cs = [iv b] ∧ i64B b ∧ True)⟩, ⟨5, 3, 1, (fun cs => ∃ (b : Int), cs = [iv b] ∧ i64B b ∧ True)⟩, ⟨6, 32, 1, (fun cs => ∃ (g0 : Value) (b : List Sight), cs = [g0] ∧ (Reads w g0 4 b encSight zSight ∧ (∀ a ∈ b, i64B a.ship ∧ i64B a.m ∧ i64B a.aw.lo ∧ i64B a.aw.hi) ∧ b.length * 32 ≤ reachBytes) ∧ True)⟩] 7 Tryd.underlying34 (by kernel_rfl) (by kernel_rfl) ⟨opn31, opn24, opn3, opn3, opn3, opn32, trivial⟩).mono fun cs h => by
    obtain ⟨hl, ⟨p0_0, b0, e0, f0_0, _⟩, ⟨b1, e1, f1_0, f1_1, _⟩, ⟨b2, e2, f2_0, _⟩, ⟨b3, e3, f3_0, _⟩, ⟨b4, e4, f4_0, _⟩, ⟨p5_0, b5, e5, f5_0, _⟩, _⟩ := h
    exact ⟨p0_0, p5_0, (⟨b0, b1, b2, b3, b4, b5⟩ : Book), (tl 0 1 cs).trans (app_eq e0 ((tl 1 2 cs).trans (app_eq e1 ((tl 3 1 cs).trans (app_eq e2 ((tl 4 1 cs).trans (app_eq e3 ((tl 5 1 cs).trans (app_eq e4 ((tl 6 1 cs).trans (app_eq e5 (tlz hl)))))))))))), f0_0, f5_0, f1_0, f1_1, f2_0, f3_0, f4_0, trivial⟩
theorem opn60 {w : World} : Opn Tryd.prog w 60 (fun cs => ∃ (b : Trip), cs = [iv b.load, iv b.ready] ∧ i64B b.load ∧ i64B b.ready ∧ True) :=
  (Opn_parts (P := Tryd.prog) (w := w) [⟨0, 3, 1, (fun cs => ∃ (b : Int), cs = [iv b] ∧ i64B b ∧ True)⟩, ⟨1, 3, 1, (fun cs => ∃ (b : Int), cs = [iv b] ∧ i64B b ∧ True)⟩] 2 Tryd.underlying60 (by kernel_rfl) (by kernel_rfl) ⟨opn3, opn3, trivial⟩).mono fun cs h => by
    obtain ⟨hl, ⟨b0, e0, f0_0, _⟩, ⟨b1, e1, f1_0, _⟩, _⟩ := h
    exact ⟨(⟨b0, b1⟩ : Trip), (tl 0 1 cs).trans (app_eq e0 ((tl 1 1 cs).trans (app_eq e1 (tlz hl)))), f0_0, f1_0, trivial⟩
theorem opn35 {w : World} : Opn Tryd.prog w 35 (fun cs => ∃ (g0 : Value) (b : List Trip), cs = [g0] ∧ (Reads w g0 2 b encTrip zTrip ∧ (∀ a ∈ b, i64B a.load ∧ i64B a.ready) ∧ b.length * 16 ≤ reachBytes) ∧ True) := (Opn_slice (encA := encTrip) (z := zTrip) (ok := (fun a : Trip => i64B a.load ∧ i64B a.ready)) (sz := 2) Tryd.underlying35 (by kernel_rfl) (opn60.mono fun cs ⟨a, h1, k0, k1, _⟩ => ⟨a, h1, ⟨k0, k1⟩⟩)).mono fun cs ⟨v, l, h1, h2, h3, h4⟩ => ⟨v, l, h1, ⟨h2, h3, h4⟩, trivial⟩
theorem opn37 {w : World} : Opn Tryd.prog w 37 (fun cs => ∃ (g0 g1 g2 g3 g4 : Value) (b : XBook), cs = [g0, iv b.lan.shores.1.fl.lo, iv b.lan.shores.1.fl.hi, iv b.lan.shores.1.lo, iv b.lan.shores.1.hi, iv b.lan.shores.2.fl.lo, iv b.lan.shores.2.fl.hi, iv b.lan.shores.2.lo, iv b.lan.shores.2.hi, iv b.lan.empty.lo, iv b.lan.empty.hi, iv b.lan.sink, iv b.lan.under, g1, g2, iv b.fw.hear.lo, iv b.fw.hear.hi, iv b.fw.br, iv b.fw.cr, iv b.fw.sl, g3, iv b.each, iv b.shore, iv b.turn, g4] ∧ (Reads w g0 2 b.lan.tides encSpan zSpan ∧ (∀ a ∈ b.lan.tides, i64B a.lo ∧ i64B a.hi) ∧ b.lan.tides.length * 16 ≤ reachBytes) ∧ (Reads w g1 3 b.lan.sounds encSound zSound ∧ (∀ a ∈ b.lan.sounds, i64B a.hr ∧ i64B a.sh ∧ i64B a.dp) ∧ b.lan.sounds.length * 24 ≤ reachBytes) ∧ (Reads w g2 5 b.fw.ships encShip zShip ∧ (∀ a ∈ b.fw.ships, i64B a.m ∧ i64B a.aw.lo ∧ i64B a.aw.hi ∧ i64B a.sp.lo ∧ i64B a.sp.hi) ∧ b.fw.ships.length * 40 ≤ reachBytes) ∧ (Reads w g3 4 b.fw.sights encSight zSight ∧ (∀ a ∈ b.fw.sights, i64B a.ship ∧ i64B a.m ∧ i64B a.aw.lo ∧ i64B a.aw.hi) ∧ b.fw.sights.length * 32 ≤ reachBytes) ∧ (Reads w g4 2 b.trips encTrip zTrip ∧ (∀ a ∈ b.trips, i64B a.load ∧ i64B a.ready) ∧ b.trips.length * 16 ≤ reachBytes) ∧ i64B b.lan.shores.1.fl.lo ∧ i64B b.lan.shores.1.fl.hi ∧ i64B b.lan.shores.1.lo ∧ i64B b.lan.shores.1.hi ∧ i64B b.lan.shores.2.fl.lo ∧ i64B b.lan.shores.2.fl.hi ∧ i64B b.lan.shores.2.lo ∧ i64B b.lan.shores.2.hi ∧ i64B b.lan.empty.lo ∧ i64B b.lan.empty.hi ∧ i64B b.lan.sink ∧ i64B b.lan.under ∧ i64B b.fw.hear.lo ∧ i64B b.fw.hear.hi ∧ i64B b.fw.br ∧ i64B b.fw.cr ∧ i64B b.fw.sl ∧ i64B b.each ∧ i64B b.shore ∧ i64B b.turn ∧ True) :=
  (Opn_parts (P := Tryd.prog) (w := w) [⟨0, 30, 14, (fun cs => ∃ (g0 g1 : Value) (b : LBook), cs = [g0, iv b.shores.1.fl.lo, iv b.shores.1.fl.hi, iv b.shores.1.lo, iv b.shores.1.hi, iv b.shores.2.fl.lo, iv b.shores.2.fl.hi, iv b.shores.2.lo, iv b.shores.2.hi, iv b.empty.lo, iv b.empty.hi, iv b.sink, iv b.under, g1] ∧ (Reads w g0 2 b.tides encSpan zSpan ∧ (∀ a ∈ b.tides, i64B a.lo ∧ i64B a.hi) ∧ b.tides.length * 16 ≤ reachBytes) ∧ (Reads w g1 3 b.sounds encSound zSound ∧ (∀ a ∈ b.sounds, i64B a.hr ∧ i64B a.sh ∧ i64B a.dp) ∧ b.sounds.length * 24 ≤ reachBytes) ∧ i64B b.shores.1.fl.lo ∧ i64B b.shores.1.fl.hi ∧ i64B b.shores.1.lo ∧ i64B b.shores.1.hi ∧ i64B b.shores.2.fl.lo ∧ i64B b.shores.2.fl.hi ∧ i64B b.shores.2.lo ∧ i64B b.shores.2.hi ∧ i64B b.empty.lo ∧ i64B b.empty.hi ∧ i64B b.sink ∧ i64B b.under ∧ True)⟩, ⟨14, 34, 7, (fun cs => ∃ (g0 g1 : Value) (b : Book), cs = [g0, iv b.hear.lo, iv b.hear.hi, iv b.br, iv b.cr, iv b.sl, g1] ∧ (Reads w g0 5 b.ships encShip zShip ∧ (∀ a ∈ b.ships, i64B a.m ∧ i64B a.aw.lo ∧ i64B a.aw.hi ∧ i64B a.sp.lo ∧ i64B a.sp.hi) ∧ b.ships.length * 40 ≤ reachBytes) ∧ (Reads w g1 4 b.sights encSight zSight ∧ (∀ a ∈ b.sights, i64B a.ship ∧ i64B a.m ∧ i64B a.aw.lo ∧ i64B a.aw.hi) ∧ b.sights.length * 32 ≤ reachBytes) ∧ i64B b.hear.lo ∧ i64B b.hear.hi ∧ i64B b.br ∧ i64B b.cr ∧ i64B b.sl ∧ True)⟩, ⟨21, 3, 1, (fun cs => ∃ (b : Int), cs = [iv b] ∧ i64B b ∧ True)⟩, ⟨22, 3, 1, (fun cs => ∃ (b : Int), cs = [iv b] ∧ i64B b ∧ True)⟩, ⟨23, 3, 1, (fun cs => ∃ (b : Int), cs = [iv b] ∧ i64B b ∧ True)⟩, ⟨24, 35, 1, (fun cs => ∃ (g0 : Value) (b : List Trip), cs = [g0] ∧ (Reads w g0 2 b encTrip zTrip ∧ (∀ a ∈ b, i64B a.load ∧ i64B a.ready) ∧ b.length * 16 ≤ reachBytes) ∧ True)⟩] 25 Tryd.underlying37 (by kernel_rfl) (by kernel_rfl) ⟨opn30, opn34, opn3, opn3, opn3, opn35, trivial⟩).mono fun cs h => by
    obtain ⟨hl, ⟨p0_0, p0_1, b0, e0, f0_0, f0_1, f0_2, f0_3, f0_4, f0_5, f0_6, f0_7, f0_8, f0_9, f0_10, f0_11, f0_12, f0_13, _⟩, ⟨p1_0, p1_1, b1, e1, f1_0, f1_1, f1_2, f1_3, f1_4, f1_5, f1_6, _⟩, ⟨b2, e2, f2_0, _⟩, ⟨b3, e3, f3_0, _⟩, ⟨b4, e4, f4_0, _⟩, ⟨p5_0, b5, e5, f5_0, _⟩, _⟩ := h
    exact ⟨p0_0, p0_1, p1_0, p1_1, p5_0, (⟨b0, b1, b2, b3, b4, b5⟩ : XBook), (tl 0 14 cs).trans (app_eq e0 ((tl 14 7 cs).trans (app_eq e1 ((tl 21 1 cs).trans (app_eq e2 ((tl 22 1 cs).trans (app_eq e3 ((tl 23 1 cs).trans (app_eq e4 ((tl 24 1 cs).trans (app_eq e5 (tlz hl)))))))))))), f0_0, f0_1, f1_0, f1_1, f5_0, f0_2, f0_3, f0_4, f0_5, f0_6, f0_7, f0_8, f0_9, f0_10, f0_11, f0_12, f0_13, f1_2, f1_3, f1_4, f1_5, f1_6, f2_0, f3_0, f4_0, trivial⟩
theorem opn38 {w : World} : Opn Tryd.prog w 38 (fun cs => ∃ (b : Int × Int × Int), cs = [iv b.1, iv b.2.1, iv b.2.2] ∧ i64B b.1 ∧ i64B b.2.1 ∧ i64B b.2.2 ∧ True) :=
  (Opn_arr (P := Tryd.prog) (w := w) 1 3 _ Tryd.underlying38 (by kernel_rfl) (by kernel_rfl) opn3).mono fun cs h => by
    obtain ⟨hl, h⟩ := h
    obtain ⟨b0, e0, f0_0, _⟩ := h 0 (by decide)
    obtain ⟨b1, e1, f1_0, _⟩ := h 1 (by decide)
    obtain ⟨b2, e2, f2_0, _⟩ := h 2 (by decide)
    exact ⟨(b0, b1, b2), (tl 0 1 cs).trans (app_eq e0 ((tl 1 1 cs).trans (app_eq e1 ((tl 2 1 cs).trans (app_eq e2 (tlz hl)))))), f0_0, f1_0, f2_0, trivial⟩
theorem own : ownKnob Tryd.prog.godebug = none := by kernel_rfl
theorem laidOut : laidOutB Tryd.prog = true := by kernel_rfl
theorem int_of_trod {H : Type} {enc : TypeId × Value → H} {Pr : Program} {w : World} {base : Nat} {sp : Nat → Bool} {held : Bool} {fuel : Nat} {t : TypeId} {k : IntKind} {n : Int} {v : Value} {q : List MemPlace} (ht : Pr.underlying t = some (.int k)) (h : DataW.trod enc Pr w base sp held fuel t [v] = some (.lit (.int k n), q)) : v = .int k n := by
  cases fuel with
  | zero => cases h
  | succ m =>
    simp only [DataW.trod, ht] at h
    cases v <;> simp at h
    rename_i k' n'
    obtain ⟨⟨h1, h2⟩, h3⟩ := h
    first | (obtain ⟨h4, _⟩ := h3; subst h1; rw [h4]) | (subst h1; simp_all)
theorem AsksAt_of {W : World} (hS : W.ShapedOpen Tryd.prog) (h : laidMetH Tryd.prog [("prow/fairway.asks", Rows.laid_prow_fairway_asks), ("prow/landing.nowhere", Rows.laid_prow_landing_nowhere), ("prow/landing.unknown", Rows.laid_prow_landing_unknown), ("prow/landing.asks", Rows.laid_prow_landing_asks), ("prow/crossing.nowhere", Rows.laid_prow_crossing_nowhere), ("prow/crossing.sides", Rows.laid_prow_crossing_sides)] W) : AsksAt W := by
  obtain ⟨g, t, cs, fuel, p, hg, ht, hv, hd⟩ := h.funcs (n := "prow/fairway.asks") (d := .agg [.iface "func" (.lit (.string [40, 112, 114, 111, 119, 47, 102, 97, 105, 114, 119, 97, 121, 46, 98, 111, 111, 107, 41, 46, 115, 111, 109, 101])), .iface "func" (.lit (.string [40, 112, 114, 111, 119, 47, 102, 97, 105, 114, 119, 97, 121, 46, 98, 111, 111, 107, 41, 46, 101, 97, 99, 104]))]) (by simp only [List.mem_cons, List.mem_nil_iff]; first | exact .inl rfl | exact .inr (.inl rfl) | exact .inr (.inr (.inl rfl)) | exact .inr (.inr (.inr (.inl rfl))) | exact .inr (.inr (.inr (.inr (.inl rfl)))) | exact .inr (.inr (.inr (.inr (.inr (.inl rfl))))))
  obtain rfl := Option.some.inj ((show Tryd.prog.globalNamed "prow/fairway.asks" = some 5 by kernel_rfl).symm.trans hg)
  obtain rfl := Option.some.inj ((show (Tryd.prog.globals[5]?).map (·.type) = some 169 by kernel_rfl).symm.trans ht)
  obtain ⟨c, hc, hsz, _⟩ := hS.1 5 #[.nilFunc, .nilFunc] 169 (Nat.le_of_ble_eq_true (by kernel_rfl)) (by kernel_rfl)
  have hcs : ∀ i : Nat, W.cell? ⟨5, i, none⟩ = cs[i]? := fun i => World.var?_cell hg hv i
  have hcc : ∀ i : Nat, W.cell? ⟨5, i, none⟩ = c[i]? := fun i => cell_of_row W 5 _ _ _ _ hc
  have hd' : DataW.trod (funcToken Tryd.prog) Tryd.prog W 0 (fun _ => true) true fuel 169 cs.toList = some (.agg [.held [40, 112, 114, 111, 119, 47, 102, 97, 105, 114, 119, 97, 121, 46, 98, 111, 111, 107, 41, 46, 115, 111, 109, 101], .held [40, 112, 114, 111, 119, 47, 102, 97, 105, 114, 119, 97, 121, 46, 98, 111, 111, 107, 41, 46, 101, 97, 99, 104]], p) := hd
  cases fuel with
  | zero => cases hd'
  | succ n =>
    simp only [DataW.trod, Tryd.underlying169] at hd'
    split at hd'
    · rename_i hl
      obtain ⟨xs, hxs, he⟩ := Option.map_eq_some_iff.1 hd'
      have hl2 : cs.toList.length = 2 := hl.trans (by kernel_rfl)
      have hk : Tryd.prog.cellsOf 168 = 1 := by kernel_rfl
      simp only [Prod.mk.injEq, DataW.agg.injEq] at he
      obtain ⟨y0, hy0, hx0⟩ := mapM_get hxs 0 0 rfl
      obtain ⟨y1, hy1, hx1⟩ := mapM_get hxs 1 1 rfl
      have h0 : y0.1 = .held [40, 112, 114, 111, 119, 47, 102, 97, 105, 114, 119, 97, 121, 46, 98, 111, 111, 107, 41, 46, 115, 111, 109, 101] := by
        have := congrArg (fun l => l[0]?) he.1
        simp only [List.getElem?_map, hx0, Option.map_some] at this
        exact Option.some.inj this
      have h1 : y1.1 = .held [40, 112, 114, 111, 119, 47, 102, 97, 105, 114, 119, 97, 121, 46, 98, 111, 111, 107, 41, 46, 101, 97, 99, 104] := by
        have := congrArg (fun l => l[1]?) he.1
        simp only [List.getElem?_map, hx1, Option.map_some] at this
        exact Option.some.inj this
      rw [hk] at hy0 hy1
      match hcl : cs.toList, hl2 with
      | [u0, u1], _ =>
        rw [hcl] at hy0 hy1
        have hu0 : DataW.trod (funcToken Tryd.prog) Tryd.prog W 0 (fun _ => true) true n 168 [u0] = some (.held [40, 112, 114, 111, 119, 47, 102, 97, 105, 114, 119, 97, 121, 46, 98, 111, 111, 107, 41, 46, 115, 111, 109, 101], y0.2) := by rw [← h0]; exact hy0
        have hu1 : DataW.trod (funcToken Tryd.prog) Tryd.prog W 0 (fun _ => true) true n 168 [u1] = some (.held [40, 112, 114, 111, 119, 47, 102, 97, 105, 114, 119, 97, 121, 46, 98, 111, 111, 107, 41, 46, 101, 97, 99, 104], y1.2) := by rw [← h1]; exact hy1
        obtain rfl := Go.func_of_trod (f0 := 142) Tryd.underlying168 (by kernel_rfl) hu0
        obtain rfl := Go.func_of_trod (f0 := 143) Tryd.underlying168 (by kernel_rfl) hu1
        unfold AsksAt
        rw [hc]
        have e0 := hcc 0
        have e1 := hcc 1
        rw [hcs 0, ← Array.getElem?_toList, hcl] at e0
        rw [hcs 1, ← Array.getElem?_toList, hcl] at e1
        have : c = #[.func (.func 142) #[] #[], .func (.func 143) #[] #[]] := by
          have hs2 : c.size = 2 := hsz
          apply Array.ext
          · rw [hs2]; rfl
          intro i h1 h2
          rw [hs2] at h1
          have : i = 0 ∨ i = 1 := by omega
          rcases this with rfl | rfl
          · have := e0.symm; rw [Array.getElem?_eq_getElem (by omega)] at this; exact Option.some.inj this
          have := e1.symm; rw [Array.getElem?_eq_getElem (by omega)] at this; exact Option.some.inj this
        rw [this]
    cases hd'
theorem NowhereAt_of {W : World} (hS : W.ShapedOpen Tryd.prog) {g : Nat} {t : TypeId} {cs : Array Value} {fuel : Nat} {p : List MemPlace} (hg : Tryd.prog.globalNamed "prow/landing.nowhere" = some g) (ht : (Tryd.prog.globals[g]?).map (·.type) = some t) (hv : W.var? Tryd.prog "prow/landing.nowhere" = some cs)
    (hd : DataW.trod (fun _ => ()) Tryd.prog W 0 (fun _ => true) false fuel t cs.toList = some (.agg [.lit (.int .i64 (-1)), .lit (.int .i64 (-1))], p)) : NowhereAt W := by
  obtain rfl := Option.some.inj ((show Tryd.prog.globalNamed "prow/landing.nowhere" = some 3 by kernel_rfl).symm.trans hg)
  obtain rfl := Option.some.inj ((show (Tryd.prog.globals[3]?).map (·.type) = some 136 by kernel_rfl).symm.trans ht)
  obtain ⟨c, hc, hsz, _⟩ := hS.1 3 #[.int .i64 0, .int .i64 0] 136 (Nat.le_of_ble_eq_true (by kernel_rfl)) (by kernel_rfl)
  have hcs : ∀ i : Nat, W.cell? ⟨3, i, none⟩ = cs[i]? := fun i => World.var?_cell hg hv i
  have hcc : ∀ i : Nat, W.cell? ⟨3, i, none⟩ = c[i]? := fun i => cell_of_row W 3 _ _ _ _ hc
  have hd' : DataW.trod (fun _ => ()) Tryd.prog W 0 (fun _ => true) false fuel 136 cs.toList = some (.agg [.lit (.int .i64 (-1)), .lit (.int .i64 (-1))], p) := hd
  cases fuel with
  | zero => cases hd'
  | succ n =>
    simp only [DataW.trod, Tryd.underlying136] at hd'
    split at hd'
    · rename_i hl
      obtain ⟨xs, hxs, he⟩ := Option.map_eq_some_iff.1 hd'
      have hl2 : cs.toList.length = 2 := hl.trans (by kernel_rfl)
      have hk : Tryd.prog.cellsOf 3 = 1 := by kernel_rfl
      simp only [Prod.mk.injEq, DataW.agg.injEq] at he
      obtain ⟨y0, hy0, hx0⟩ := mapM_get hxs 0 _ rfl
      obtain ⟨y1, hy1, hx1⟩ := mapM_get hxs 1 _ rfl
      have h0 : y0.1 = .lit (.int .i64 (-1)) := by
        have := congrArg (fun l => l[0]?) he.1
        simp only [List.getElem?_map, hx0, Option.map_some] at this
        exact Option.some.inj this
      have h1 : y1.1 = .lit (.int .i64 (-1)) := by
        have := congrArg (fun l => l[1]?) he.1
        simp only [List.getElem?_map, hx1, Option.map_some] at this
        exact Option.some.inj this
      simp only [hk] at hy0 hy1
      match hcl : cs.toList, hl2 with
      | [u0, u1], _ =>
        rw [hcl] at hy0 hy1
        have hu0 : DataW.trod (fun _ => ()) Tryd.prog W 0 (fun _ => true) false n 3 [u0] = some (.lit (.int .i64 (-1)), y0.2) := by rw [← h0]; exact hy0
        have hu1 : DataW.trod (fun _ => ()) Tryd.prog W 0 (fun _ => true) false n 3 [u1] = some (.lit (.int .i64 (-1)), y1.2) := by rw [← h1]; exact hy1
        obtain rfl := int_of_trod Tryd.underlying3 hu0
        obtain rfl := int_of_trod Tryd.underlying3 hu1
        unfold NowhereAt
        rw [hc]
        have e0 := hcc 0
        have e1 := hcc 1
        rw [hcs 0, ← Array.getElem?_toList, hcl] at e0
        rw [hcs 1, ← Array.getElem?_toList, hcl] at e1
        have : c = #[iv (-1), iv (-1)] := by
          have hs2 : c.size = 2 := hsz
          apply Array.ext
          · rw [hs2]; rfl
          intro i h1 h2
          rw [hs2] at h1
          have : i = 0 ∨ i = 1 := by omega
          rcases this with rfl | rfl
          · have := e0.symm; rw [Array.getElem?_eq_getElem (by omega)] at this; exact Option.some.inj this
          have := e1.symm; rw [Array.getElem?_eq_getElem (by omega)] at this; exact Option.some.inj this
        rw [this]
    cases hd'
theorem UnknownAt_of {W : World} (hS : W.ShapedOpen Tryd.prog) {g : Nat} {t : TypeId} {cs : Array Value} {fuel : Nat} {p : List MemPlace} (hg : Tryd.prog.globalNamed "prow/landing.unknown" = some g) (ht : (Tryd.prog.globals[g]?).map (·.type) = some t) (hv : W.var? Tryd.prog "prow/landing.unknown" = some cs)
    (hd : DataW.trod (fun _ => ()) Tryd.prog W 0 (fun _ => true) false fuel t cs.toList = some (.agg [.lit (.int .i64 (-41)), .lit (.int .i64 (-41))], p)) : UnknownAt W := by
  obtain rfl := Option.some.inj ((show Tryd.prog.globalNamed "prow/landing.unknown" = some 4 by kernel_rfl).symm.trans hg)
  obtain rfl := Option.some.inj ((show (Tryd.prog.globals[4]?).map (·.type) = some 148 by kernel_rfl).symm.trans ht)
  obtain ⟨c, hc, hsz, _⟩ := hS.1 4 #[.int .i64 0, .int .i64 0] 148 (Nat.le_of_ble_eq_true (by kernel_rfl)) (by kernel_rfl)
  have hcs : ∀ i : Nat, W.cell? ⟨4, i, none⟩ = cs[i]? := fun i => World.var?_cell hg hv i
  have hcc : ∀ i : Nat, W.cell? ⟨4, i, none⟩ = c[i]? := fun i => cell_of_row W 4 _ _ _ _ hc
  have hd' : DataW.trod (fun _ => ()) Tryd.prog W 0 (fun _ => true) false fuel 148 cs.toList = some (.agg [.lit (.int .i64 (-41)), .lit (.int .i64 (-41))], p) := hd
  cases fuel with
  | zero => cases hd'
  | succ n =>
    simp only [DataW.trod, Tryd.underlying148] at hd'
    split at hd'
    · rename_i hl
      obtain ⟨xs, hxs, he⟩ := Option.map_eq_some_iff.1 hd'
      have hl2 : cs.toList.length = 2 := hl.trans (by kernel_rfl)
      have hk : Tryd.prog.cellsOf 3 = 1 := by kernel_rfl
      simp only [Prod.mk.injEq, DataW.agg.injEq] at he
      obtain ⟨y0, hy0, hx0⟩ := mapM_get hxs 0 _ rfl
      obtain ⟨y1, hy1, hx1⟩ := mapM_get hxs 1 _ rfl
      have h0 : y0.1 = .lit (.int .i64 (-41)) := by
        have := congrArg (fun l => l[0]?) he.1
        simp only [List.getElem?_map, hx0, Option.map_some] at this
        exact Option.some.inj this
      have h1 : y1.1 = .lit (.int .i64 (-41)) := by
        have := congrArg (fun l => l[1]?) he.1
        simp only [List.getElem?_map, hx1, Option.map_some] at this
        exact Option.some.inj this
      simp only [hk] at hy0 hy1
      match hcl : cs.toList, hl2 with
      | [u0, u1], _ =>
        rw [hcl] at hy0 hy1
        have hu0 : DataW.trod (fun _ => ()) Tryd.prog W 0 (fun _ => true) false n 3 [u0] = some (.lit (.int .i64 (-41)), y0.2) := by rw [← h0]; exact hy0
        have hu1 : DataW.trod (fun _ => ()) Tryd.prog W 0 (fun _ => true) false n 3 [u1] = some (.lit (.int .i64 (-41)), y1.2) := by rw [← h1]; exact hy1
        obtain rfl := int_of_trod Tryd.underlying3 hu0
        obtain rfl := int_of_trod Tryd.underlying3 hu1
        unfold UnknownAt
        rw [hc]
        have e0 := hcc 0
        have e1 := hcc 1
        rw [hcs 0, ← Array.getElem?_toList, hcl] at e0
        rw [hcs 1, ← Array.getElem?_toList, hcl] at e1
        have : c = #[iv (-41), iv (-41)] := by
          have hs2 : c.size = 2 := hsz
          apply Array.ext
          · rw [hs2]; rfl
          intro i h1 h2
          rw [hs2] at h1
          have : i = 0 ∨ i = 1 := by omega
          rcases this with rfl | rfl
          · have := e0.symm; rw [Array.getElem?_eq_getElem (by omega)] at this; exact Option.some.inj this
          have := e1.symm; rw [Array.getElem?_eq_getElem (by omega)] at this; exact Option.some.inj this
        rw [this]
    cases hd'
theorem LAsksAt_of {W : World} (hS : W.ShapedOpen Tryd.prog) (h : laidMetH Tryd.prog [("prow/fairway.asks", Rows.laid_prow_fairway_asks), ("prow/landing.nowhere", Rows.laid_prow_landing_nowhere), ("prow/landing.unknown", Rows.laid_prow_landing_unknown), ("prow/landing.asks", Rows.laid_prow_landing_asks), ("prow/crossing.nowhere", Rows.laid_prow_crossing_nowhere), ("prow/crossing.sides", Rows.laid_prow_crossing_sides)] W) : LAsksAt W := by
  obtain ⟨g, t, cs, fuel, p, hg, ht, hv, hd⟩ := h.funcs (n := "prow/landing.asks") (d := .agg [.iface "func" (.lit (.string [40, 112, 114, 111, 119, 47, 108, 97, 110, 100, 105, 110, 103, 46, 98, 111, 111, 107, 41, 46, 109, 97, 121])), .iface "func" (.lit (.string [40, 112, 114, 111, 119, 47, 108, 97, 110, 100, 105, 110, 103, 46, 98, 111, 111, 107, 41, 46, 109, 117, 115, 116]))]) (by simp only [List.mem_cons, List.mem_nil_iff]; first | exact .inl rfl | exact .inr (.inl rfl) | exact .inr (.inr (.inl rfl)) | exact .inr (.inr (.inr (.inl rfl))) | exact .inr (.inr (.inr (.inr (.inl rfl)))) | exact .inr (.inr (.inr (.inr (.inr (.inl rfl))))))
  obtain rfl := Option.some.inj ((show Tryd.prog.globalNamed "prow/landing.asks" = some 1 by kernel_rfl).symm.trans hg)
  obtain rfl := Option.some.inj ((show (Tryd.prog.globals[1]?).map (·.type) = some 134 by kernel_rfl).symm.trans ht)
  obtain ⟨c, hc, hsz, _⟩ := hS.1 1 #[.nilFunc, .nilFunc] 134 (Nat.le_of_ble_eq_true (by kernel_rfl)) (by kernel_rfl)
  have hcs : ∀ i : Nat, W.cell? ⟨1, i, none⟩ = cs[i]? := fun i => World.var?_cell hg hv i
  have hcc : ∀ i : Nat, W.cell? ⟨1, i, none⟩ = c[i]? := fun i => cell_of_row W 1 _ _ _ _ hc
  have hd' : DataW.trod (funcToken Tryd.prog) Tryd.prog W 0 (fun _ => true) true fuel 134 cs.toList = some (.agg [.held [40, 112, 114, 111, 119, 47, 108, 97, 110, 100, 105, 110, 103, 46, 98, 111, 111, 107, 41, 46, 109, 97, 121], .held [40, 112, 114, 111, 119, 47, 108, 97, 110, 100, 105, 110, 103, 46, 98, 111, 111, 107, 41, 46, 109, 117, 115, 116]], p) := hd
  cases fuel with
  | zero => cases hd'
  | succ n =>
    simp only [DataW.trod, Tryd.underlying134] at hd'
    split at hd'
    · rename_i hl
      obtain ⟨xs, hxs, he⟩ := Option.map_eq_some_iff.1 hd'
      have hl2 : cs.toList.length = 2 := hl.trans (by kernel_rfl)
      have hk : Tryd.prog.cellsOf 133 = 1 := by kernel_rfl
      simp only [Prod.mk.injEq, DataW.agg.injEq] at he
      obtain ⟨y0, hy0, hx0⟩ := mapM_get hxs 0 0 rfl
      obtain ⟨y1, hy1, hx1⟩ := mapM_get hxs 1 1 rfl
      have h0 : y0.1 = .held [40, 112, 114, 111, 119, 47, 108, 97, 110, 100, 105, 110, 103, 46, 98, 111, 111, 107, 41, 46, 109, 97, 121] := by
        have := congrArg (fun l => l[0]?) he.1
        simp only [List.getElem?_map, hx0, Option.map_some] at this
        exact Option.some.inj this
      have h1 : y1.1 = .held [40, 112, 114, 111, 119, 47, 108, 97, 110, 100, 105, 110, 103, 46, 98, 111, 111, 107, 41, 46, 109, 117, 115, 116] := by
        have := congrArg (fun l => l[1]?) he.1
        simp only [List.getElem?_map, hx1, Option.map_some] at this
        exact Option.some.inj this
      rw [hk] at hy0 hy1
      match hcl : cs.toList, hl2 with
      | [u0, u1], _ =>
        rw [hcl] at hy0 hy1
        have hu0 : DataW.trod (funcToken Tryd.prog) Tryd.prog W 0 (fun _ => true) true n 133 [u0] = some (.held [40, 112, 114, 111, 119, 47, 108, 97, 110, 100, 105, 110, 103, 46, 98, 111, 111, 107, 41, 46, 109, 97, 121], y0.2) := by rw [← h0]; exact hy0
        have hu1 : DataW.trod (funcToken Tryd.prog) Tryd.prog W 0 (fun _ => true) true n 133 [u1] = some (.held [40, 112, 114, 111, 119, 47, 108, 97, 110, 100, 105, 110, 103, 46, 98, 111, 111, 107, 41, 46, 109, 117, 115, 116], y1.2) := by rw [← h1]; exact hy1
        obtain rfl := Go.func_of_trod (f0 := 132) Tryd.underlying133 (by kernel_rfl) hu0
        obtain rfl := Go.func_of_trod (f0 := 136) Tryd.underlying133 (by kernel_rfl) hu1
        unfold LAsksAt
        rw [hc]
        have e0 := hcc 0
        have e1 := hcc 1
        rw [hcs 0, ← Array.getElem?_toList, hcl] at e0
        rw [hcs 1, ← Array.getElem?_toList, hcl] at e1
        have : c = #[.func (.func 132) #[] #[], .func (.func 136) #[] #[]] := by
          have hs2 : c.size = 2 := hsz
          apply Array.ext
          · rw [hs2]; rfl
          intro i h1 h2
          rw [hs2] at h1
          have : i = 0 ∨ i = 1 := by omega
          rcases this with rfl | rfl
          · have := e0.symm; rw [Array.getElem?_eq_getElem (by omega)] at this; exact Option.some.inj this
          have := e1.symm; rw [Array.getElem?_eq_getElem (by omega)] at this; exact Option.some.inj this
        rw [this]
    cases hd'
theorem XNowhereAt_of {W : World} (hS : W.ShapedOpen Tryd.prog) {g : Nat} {t : TypeId} {cs : Array Value} {fuel : Nat} {p : List MemPlace} (hg : Tryd.prog.globalNamed "prow/crossing.nowhere" = some g) (ht : (Tryd.prog.globals[g]?).map (·.type) = some t) (hv : W.var? Tryd.prog "prow/crossing.nowhere" = some cs)
    (hd : DataW.trod (fun _ => ()) Tryd.prog W 0 (fun _ => true) false fuel t cs.toList = some (.agg [.lit (.int .i64 (-1)), .lit (.int .i64 0)], p)) : XNowhereAt W := by
  obtain rfl := Option.some.inj ((show Tryd.prog.globalNamed "prow/crossing.nowhere" = some 2 by kernel_rfl).symm.trans hg)
  obtain rfl := Option.some.inj ((show (Tryd.prog.globals[2]?).map (·.type) = some 86 by kernel_rfl).symm.trans ht)
  obtain ⟨c, hc, hsz, _⟩ := hS.1 2 #[.int .i64 0, .int .i64 0] 86 (Nat.le_of_ble_eq_true (by kernel_rfl)) (by kernel_rfl)
  have hcs : ∀ i : Nat, W.cell? ⟨2, i, none⟩ = cs[i]? := fun i => World.var?_cell hg hv i
  have hcc : ∀ i : Nat, W.cell? ⟨2, i, none⟩ = c[i]? := fun i => cell_of_row W 2 _ _ _ _ hc
  have hd' : DataW.trod (fun _ => ()) Tryd.prog W 0 (fun _ => true) false fuel 86 cs.toList = some (.agg [.lit (.int .i64 (-1)), .lit (.int .i64 0)], p) := hd
  cases fuel with
  | zero => cases hd'
  | succ n =>
    simp only [DataW.trod, Tryd.underlying86] at hd'
    split at hd'
    · rename_i hl
      obtain ⟨xs, hxs, he⟩ := Option.map_eq_some_iff.1 hd'
      have hl2 : cs.toList.length = 2 := hl.trans (by kernel_rfl)
      have hk : Tryd.prog.cellsOf 3 = 1 := by kernel_rfl
      simp only [Prod.mk.injEq, DataW.agg.injEq] at he
      obtain ⟨y0, hy0, hx0⟩ := mapM_get hxs 0 _ rfl
      obtain ⟨y1, hy1, hx1⟩ := mapM_get hxs 1 _ rfl
      have h0 : y0.1 = .lit (.int .i64 (-1)) := by
        have := congrArg (fun l => l[0]?) he.1
        simp only [List.getElem?_map, hx0, Option.map_some] at this
        exact Option.some.inj this
      have h1 : y1.1 = .lit (.int .i64 0) := by
        have := congrArg (fun l => l[1]?) he.1
        simp only [List.getElem?_map, hx1, Option.map_some] at this
        exact Option.some.inj this
      simp only [hk] at hy0 hy1
      match hcl : cs.toList, hl2 with
      | [u0, u1], _ =>
        rw [hcl] at hy0 hy1
        have hu0 : DataW.trod (fun _ => ()) Tryd.prog W 0 (fun _ => true) false n 3 [u0] = some (.lit (.int .i64 (-1)), y0.2) := by rw [← h0]; exact hy0
        have hu1 : DataW.trod (fun _ => ()) Tryd.prog W 0 (fun _ => true) false n 3 [u1] = some (.lit (.int .i64 0), y1.2) := by rw [← h1]; exact hy1
        obtain rfl := int_of_trod Tryd.underlying3 hu0
        obtain rfl := int_of_trod Tryd.underlying3 hu1
        unfold XNowhereAt
        rw [hc]
        have e0 := hcc 0
        have e1 := hcc 1
        rw [hcs 0, ← Array.getElem?_toList, hcl] at e0
        rw [hcs 1, ← Array.getElem?_toList, hcl] at e1
        have : c = #[iv (-1), iv 0] := by
          have hs2 : c.size = 2 := hsz
          apply Array.ext
          · rw [hs2]; rfl
          intro i h1 h2
          rw [hs2] at h1
          have : i = 0 ∨ i = 1 := by omega
          rcases this with rfl | rfl
          · have := e0.symm; rw [Array.getElem?_eq_getElem (by omega)] at this; exact Option.some.inj this
          have := e1.symm; rw [Array.getElem?_eq_getElem (by omega)] at this; exact Option.some.inj this
        rw [this]
    cases hd'
theorem SidesAt_of {W : World} (hS : W.ShapedOpen Tryd.prog) (h : laidMetH Tryd.prog [("prow/fairway.asks", Rows.laid_prow_fairway_asks), ("prow/landing.nowhere", Rows.laid_prow_landing_nowhere), ("prow/landing.unknown", Rows.laid_prow_landing_unknown), ("prow/landing.asks", Rows.laid_prow_landing_asks), ("prow/crossing.nowhere", Rows.laid_prow_crossing_nowhere), ("prow/crossing.sides", Rows.laid_prow_crossing_sides)] W) : SidesAt W := by
  obtain ⟨g, t, cs, fuel, p, hg, ht, hv, hd⟩ := h.funcs (n := "prow/crossing.sides") (d := .agg [.iface "func" (.lit (.string [40, 112, 114, 111, 119, 47, 99, 114, 111, 115, 115, 105, 110, 103, 46, 98, 111, 111, 107, 41, 46, 108, 101, 97, 118, 101, 115])), .iface "func" (.lit (.string [40, 112, 114, 111, 119, 47, 99, 114, 111, 115, 115, 105, 110, 103, 46, 98, 111, 111, 107, 41, 46, 97, 114, 114, 105, 118, 101, 115]))]) (by simp only [List.mem_cons, List.mem_nil_iff]; first | exact .inl rfl | exact .inr (.inl rfl) | exact .inr (.inr (.inl rfl)) | exact .inr (.inr (.inr (.inl rfl))) | exact .inr (.inr (.inr (.inr (.inl rfl)))) | exact .inr (.inr (.inr (.inr (.inr (.inl rfl))))))
  obtain rfl := Option.some.inj ((show Tryd.prog.globalNamed "prow/crossing.sides" = some 0 by kernel_rfl).symm.trans hg)
  obtain rfl := Option.some.inj ((show (Tryd.prog.globals[0]?).map (·.type) = some 123 by kernel_rfl).symm.trans ht)
  obtain ⟨c, hc, hsz, _⟩ := hS.1 0 #[.nilFunc, .nilFunc] 123 (Nat.le_of_ble_eq_true (by kernel_rfl)) (by kernel_rfl)
  have hcs : ∀ i : Nat, W.cell? ⟨0, i, none⟩ = cs[i]? := fun i => World.var?_cell hg hv i
  have hcc : ∀ i : Nat, W.cell? ⟨0, i, none⟩ = c[i]? := fun i => cell_of_row W 0 _ _ _ _ hc
  have hd' : DataW.trod (funcToken Tryd.prog) Tryd.prog W 0 (fun _ => true) true fuel 123 cs.toList = some (.agg [.held [40, 112, 114, 111, 119, 47, 99, 114, 111, 115, 115, 105, 110, 103, 46, 98, 111, 111, 107, 41, 46, 108, 101, 97, 118, 101, 115], .held [40, 112, 114, 111, 119, 47, 99, 114, 111, 115, 115, 105, 110, 103, 46, 98, 111, 111, 107, 41, 46, 97, 114, 114, 105, 118, 101, 115]], p) := hd
  cases fuel with
  | zero => cases hd'
  | succ n =>
    simp only [DataW.trod, Tryd.underlying123] at hd'
    split at hd'
    · rename_i hl
      obtain ⟨xs, hxs, he⟩ := Option.map_eq_some_iff.1 hd'
      have hl2 : cs.toList.length = 2 := hl.trans (by kernel_rfl)
      have hk : Tryd.prog.cellsOf 122 = 1 := by kernel_rfl
      simp only [Prod.mk.injEq, DataW.agg.injEq] at he
      obtain ⟨y0, hy0, hx0⟩ := mapM_get hxs 0 0 rfl
      obtain ⟨y1, hy1, hx1⟩ := mapM_get hxs 1 1 rfl
      have h0 : y0.1 = .held [40, 112, 114, 111, 119, 47, 99, 114, 111, 115, 115, 105, 110, 103, 46, 98, 111, 111, 107, 41, 46, 108, 101, 97, 118, 101, 115] := by
        have := congrArg (fun l => l[0]?) he.1
        simp only [List.getElem?_map, hx0, Option.map_some] at this
        exact Option.some.inj this
      have h1 : y1.1 = .held [40, 112, 114, 111, 119, 47, 99, 114, 111, 115, 115, 105, 110, 103, 46, 98, 111, 111, 107, 41, 46, 97, 114, 114, 105, 118, 101, 115] := by
        have := congrArg (fun l => l[1]?) he.1
        simp only [List.getElem?_map, hx1, Option.map_some] at this
        exact Option.some.inj this
      rw [hk] at hy0 hy1
      match hcl : cs.toList, hl2 with
      | [u0, u1], _ =>
        rw [hcl] at hy0 hy1
        have hu0 : DataW.trod (funcToken Tryd.prog) Tryd.prog W 0 (fun _ => true) true n 122 [u0] = some (.held [40, 112, 114, 111, 119, 47, 99, 114, 111, 115, 115, 105, 110, 103, 46, 98, 111, 111, 107, 41, 46, 108, 101, 97, 118, 101, 115], y0.2) := by rw [← h0]; exact hy0
        have hu1 : DataW.trod (funcToken Tryd.prog) Tryd.prog W 0 (fun _ => true) true n 122 [u1] = some (.held [40, 112, 114, 111, 119, 47, 99, 114, 111, 115, 115, 105, 110, 103, 46, 98, 111, 111, 107, 41, 46, 97, 114, 114, 105, 118, 101, 115], y1.2) := by rw [← h1]; exact hy1
        obtain rfl := Go.func_of_trod (f0 := 135) Tryd.underlying122 (by kernel_rfl) hu0
        obtain rfl := Go.func_of_trod (f0 := 88) Tryd.underlying122 (by kernel_rfl) hu1
        unfold SidesAt
        rw [hc]
        have e0 := hcc 0
        have e1 := hcc 1
        rw [hcs 0, ← Array.getElem?_toList, hcl] at e0
        rw [hcs 1, ← Array.getElem?_toList, hcl] at e1
        have : c = #[.func (.func 135) #[] #[], .func (.func 88) #[] #[]] := by
          have hs2 : c.size = 2 := hsz
          apply Array.ext
          · rw [hs2]; rfl
          intro i h1 h2
          rw [hs2] at h1
          have : i = 0 ∨ i = 1 := by omega
          rcases this with rfl | rfl
          · have := e0.symm; rw [Array.getElem?_eq_getElem (by omega)] at this; exact Option.some.inj this
          have := e1.symm; rw [Array.getElem?_eq_getElem (by omega)] at this; exact Option.some.inj this
        rw [this]
    cases hd'
theorem cx_of {W : World} (hS : W.ShapedOpen Tryd.prog) (h : laidMetH Tryd.prog [("prow/fairway.asks", Rows.laid_prow_fairway_asks), ("prow/landing.nowhere", Rows.laid_prow_landing_nowhere), ("prow/landing.unknown", Rows.laid_prow_landing_unknown), ("prow/landing.asks", Rows.laid_prow_landing_asks), ("prow/crossing.nowhere", Rows.laid_prow_crossing_nowhere), ("prow/crossing.sides", Rows.laid_prow_crossing_sides)] W) : AsksAt W ∧ UnknownAt W ∧ NowhereAt W ∧ LAsksAt W ∧ SidesAt W ∧ XNowhereAt W := by
  have h1 : laidMet Tryd.prog [("prow/landing.nowhere", Rows.laid_prow_landing_nowhere), ("prow/landing.unknown", Rows.laid_prow_landing_unknown), ("prow/crossing.nowhere", Rows.laid_prow_crossing_nowhere)] W := by
    have h2 : laidMet Tryd.prog [("prow/landing.nowhere", Rows.laid_prow_landing_nowhere), ("prow/landing.unknown", Rows.laid_prow_landing_unknown), ("prow/crossing.nowhere", Rows.laid_prow_crossing_nowhere)] W ∧ handlesMet Tryd.prog [("prow/fairway.asks", Rows.laid_prow_fairway_asks), ("prow/landing.asks", Rows.laid_prow_landing_asks), ("prow/crossing.sides", Rows.laid_prow_crossing_sides)] W := h
    exact h2.1
  obtain ⟨ps, ⟨g0, t0, cs0, f0, p0, q0, hg0, ht0, hv0, hd0, ⟨g1, t1, cs1, f1, p1, q1, hg1, ht1, hv1, hd1, ⟨g2, t2, cs2, f2, p2, q2, hg2, ht2, hv2, hd2, _, _⟩, _⟩, _⟩, _⟩ := h1
  exact ⟨AsksAt_of hS h, UnknownAt_of hS hg1 ht1 hv1 hd1, NowhereAt_of hS hg0 ht0 hv0 hd0, LAsksAt_of hS h, SidesAt_of hS h, XNowhereAt_of hS hg2 ht2 hv2 hd2⟩
end Go.Proofs.YtpfglknbkpcfnaaDoor.X
namespace Go.Proofs.YtpfglknbkpcfnaaDoor.Lw
open Go Go.RowKit Go.Proofs.YtpfglknbkpcfnaaDoor.Eng Go.Proofs.YtpfglknbkpcfnaaDoor.Fw
theorem in_min {m : Int} {h : Int} (h0 : 0 ≤ m) (h1 : m ≤ h) : withinF m 0 h = true := by
  unfold withinF
  rw [decide_eq_true h0, decide_eq_true h1]; rfl
theorem err_T {b : Book} (hv : Valid b) (ht : isTrueF b [] = true) : errF b true = 0 := err_ok.2 ⟨hv, rfl, ht⟩
section
variable {b : Book} (hv : Valid b)
include hv
theorem clearA_T (ht : isTrueF b [] = true) {m : Int} (h0 : 0 ≤ m) (h1 : m ≤ 60) : clearA b m = (clearF b [] m, 0) := by
  rw [clearA_eq, in_min h0 h1, err_T hv ht, if_pos rfl]
end
theorem clear_in {b : Book} (hv : Valid b) (ht : isTrueF b [] = true) (m : Int) : 0 ≤ clearF b [] m ∧ clearF b [] m ≤ 2 := by
  rw [clearF_eq hv ht]
  split
  · omega
  split <;> omega
end Go.Proofs.YtpfglknbkpcfnaaDoor.Lw
namespace Go.Proofs.YtpfglknbkpcfnaaDoor.X
open Go Go.RowKit Go.Proofs.YtpfglknbkpcfnaaDoor.Eng Go.Proofs.YtpfglknbkpcfnaaDoor.Fw
theorem lands_range (x : LBook) (shore hour load : Int) : 0 ≤ (landsL x shore hour load).1 ∧ (landsL x shore hour load).1 ≤ 2 := by
  unfold landsL
  cases (checkL x == 0) && (((isShoreL shore) && (isHourL x hour)) && (isLoadL load))
  · cases askNL x != 0 <;> (simp only [cond_true, cond_false]; decide)
  cases askTL x != 0
  · cases mustD (⟨x, (canF x)⟩ : LOpen) (⟨hour, shore⟩ : (Int × Int)) load <;> cases mayD (⟨x, (canF x)⟩ : LOpen) (⟨hour, shore⟩ : (Int × Int)) load <;> (simp only [cond_true, cond_false]; decide)
  simp only [cond_true, cond_false]; decide
theorem landsX_range (b : XBook) (p : Int × Int) (load : Int) : 0 ≤ landsX b p load ∧ landsX b p load ≤ 2 := lands_range _ _ _ _
theorem least3 (a x y : Int) : leastX a [x, y] = min (min a x) y := by
  show mn (mn a x) y = _
  rw [mn_spec, mn_spec]
theorem asc_fst {l : List Int} (h : l.Pairwise (· < ·)) {x : Int} {r : List Int} (he : l = x :: r) : ∀ y ∈ l, x ≤ y := by
  subst he
  intro y hy
  rcases List.mem_cons.1 hy with rfl | hy
  · exact Int.le_refl _
  have := (List.pairwise_cons.1 h).1 y hy; omega
theorem depU_mem {b : XBook} {p : Int × Int} {load x : Int} (h0 : 0 ≤ p.2) : x ∈ depX b p load true ↔ (p.2 ≤ x ∧ x ≤ 60) ∧ sureX b (p.1, x) load = true := by
  unfold depX preX
  rw [List.mem_filter, List.mem_map]
  refine and_congr ?_ Iff.rfl
  simp only [List.mem_range, nX, stepO, if_true]
  constructor
  · rintro ⟨q, hq, rfl⟩
    split at hq <;> omega
  rintro ⟨h1, h2⟩
  refine ⟨(x - p.2).toNat, ?_, by omega⟩
  rw [if_pos (by omega)]; omega
theorem depU_asc (b : XBook) (p : Int × Int) (load : Int) : (depX b p load true).Pairwise (· < ·) := by
  unfold depX preX
  refine List.Pairwise.filter _ ?_
  rw [List.pairwise_map]
  exact List.pairwise_lt_range.imp fun h => by simp only [stepO, if_true]; omega
structure IsFirst (S : Int → Bool) (m : Int) (r : Int × Bool) : Prop where
  yes : r.2 = true → (m ≤ r.1 ∧ r.1 ≤ 60) ∧ S r.1 = true ∧ ∀ y, m ≤ y → y < r.1 → S y = false
  no : r.2 = false → r.1 = 0 ∧ ∀ y, m ≤ y → y ≤ 60 → S y = false
theorem firstU_is {b : XBook} {p : Int × Int} {load : Int} (h0 : 0 ≤ p.2) : IsFirst (fun m => sureX b (p.1, m) load) p.2 (firstU b p load) := by
  unfold firstU
  cases hl : depX b p load true with
  | nil =>
    refine ⟨fun h => (by cases h), fun _ => ⟨rfl, fun y h1 h2 => ?_⟩⟩
    cases hs : sureX b (p.1, y) load with
    | false => rfl
    | true => have := (depU_mem h0).2 ⟨⟨h1, h2⟩, hs⟩; rw [hl] at this; cases this
  | cons x r =>
    refine ⟨fun _ => ?_, fun h => (by cases h)⟩
    have hx := (depU_mem (x := x) h0).1 (by rw [hl]; exact List.mem_cons_self)
    refine ⟨hx.1, hx.2, fun y h1 h2 => ?_⟩
    cases hs : sureX b (p.1, y) load with
    | false => rfl
    | true =>
      have h3 := (depU_mem h0).2 ⟨⟨h1, by have := hx.1.2; simp only [firstQ] at h2; omega⟩, hs⟩
      have := asc_fst (depU_asc b p load) hl y h3
      simp only [firstQ] at h2; omega
section
variable {b : XBook} (hb : ValidX b)
include hb
theorem err_valid (isv : Bool) : errX b isv = if isv then (if rightX b then 0 else 92) else 91 := by
  unfold errX; rw [if_pos (checkX_valid.2 hb)]
theorem true2_eq : true2L b = rightX b := by
  unfold true2L rightX
  rw [show (rightL b.lan).2 = 0 from by unfold rightL; rw [show (checkL b.lan != 0) = false from by rw [checkL_valid.2 hb.lan]; rfl]; rfl,
    show (rightA b.fw).2 = 0 from by rw [Lw.rightA_eq, if_pos (check_valid.2 hb.fw)]]
  simp
theorem right_fw (hr : rightX b = true) : isTrueF b.fw [] = true := by
  unfold rightX at hr
  rw [Lw.rightA_eq, if_pos (check_valid.2 hb.fw)] at hr
  exact (Bool.and_eq_true_iff.1 hr).2
end
theorem asks_in {sh load m : Int} (h1 : 0 ≤ sh ∧ sh ≤ 1) (h2 : 0 ≤ load ∧ load ≤ 200) (h3 : 0 ≤ m ∧ m ≤ 60) : (((isShoreX sh) && (isLoadX load)) && (isMinuteX m)) = true := by
  rw [isShoreX_iff.2 h1, isLoadX_iff.2 h2, isMinuteX_iff.2 h3]; rfl
section
variable {b : XBook} (hb : ValidX b) {sh load m : Int} (h1 : 0 ≤ sh ∧ sh ≤ 1) (h2 : 0 ≤ load ∧ load ≤ 200) (h3 : 0 ≤ m ∧ m ≤ 60)
include hb h1 h2 h3
theorem sureA_F (hr : rightX b = false) : sureA b sh load m = (0, 92) := by
  unfold sureA; rw [asks_in h1 h2 h3, err_valid hb, hr]; rfl
theorem sureA_T (hr : rightX b = true) : sureA b sh load m = (min (min (clearF b.fw [] m) (landsX b (sh, m) load)) (landsX b (arrivesX b (sh, m)) load), 0) := by
  unfold sureA
  rw [asks_in h1 h2 h3, err_valid hb, hr, Lw.clearA_T hb.fw (right_fw hb hr) h3.1 h3.2]
  simp only [if_true, least3, shoresX, leavesX]
  rfl
end
def CrossingLeastL (b : XBook) (n : Int × Int × Int) : Bool :=
  (bif !(soundL b) then true else (bif !(true2L b) then (((sureA b (modF n.1 2) (modF n.2.1 201) (modF n.2.2 61)).2 == 92) && ((sureA b (modF n.1 2) (modF n.2.1 201) (modF n.2.2 61)).1 == 0)) || false else (((sureA b (modF n.1 2) (modF n.2.1 201) (modF n.2.2 61)).2 == 0) && ((sureA b (modF n.1 2) (modF n.2.1 201) (modF n.2.2 61)).1 == (levelL b (modF n.1 2) (modF n.2.1 201) (modF n.2.2 61)))) || false))
theorem CrossingLeastL_calls (g0 g1 g2 g3 g4 : Value) (b : XBook) (n : Int × Int × Int) (w : World) (r0 : Reads w g0 2 b.lan.tides encSpan zSpan) (r1 : Reads w g1 3 b.lan.sounds encSound zSound) (r2 : Reads w g2 5 b.fw.ships encShip zShip) (r3 : Reads w g3 4 b.fw.sights encSight zSight) (r4 : Reads w g4 2 b.trips encTrip zTrip) (ha : AsksAt w) (hun : UnknownAt w) (hnw0 : NowhereAt w) (hla : LAsksAt w) (hsd : SidesAt w) (hxn : XNowhereAt w) (hfe : ferriedL = true) : Calls Tryd.prog 3 #[.agg ((xV g0 b g1 g2 g3 g4).toArray), .agg #[iv n.1, iv n.2.1, iv n.2.2]] w fun e w' => e = .returned (.bool (CrossingLeastL b n)) ∧ Below w.heap.size w w' := by
  refine CW tt_ok [g0, g1, g2, g3, g4] 5 [.g (xQ b), .g [.int .i64 n.1, .int .i64 n.2.1, .int .i64 n.2.2]] (roX b ((5, .pf AsksAt (· = 5)) :: hp5)) 11 Tryd.func3 rfl rfl rfl (by simp [r0.one, r1.one, r2.one, r3.one, r4.one]) ⟨ro_in r0, ro_in r1, ro_in r2, ro_in r3, ro_in r4, pf_in ha, pf_in hun, pf_in hnw0, pf_in hla, pf_in hsd, pf_in hxn, trivial⟩ ?_
  have hl0 := Reads.len r0
  have hl1 := Reads.len r1
  have hl2 := Reads.len r2
  have hl3 := Reads.len r3
  have hl4 := Reads.len r4
  refine WSA tt_ok ?_
  refine WP_seq (WP_seq (WP_region (WPO_run tt_ok 1 (by kernel_rfl) ?_)))
  refine CAL 13 [.g (xQ b)] (.s (.bool (soundL b))) [] (fun hG nV w h => soundL_calls (nV 0) (nV 1) (nV 2) (nV 3) (nV 4) b w (h.rd 0 24) (h.rd 1 112) (h.rd 2 103) (h.rd 3 105) (h.rd 4 60) ) ?_
  refine WPA tt_ok ?_
  refine WP_cond (!(soundL b)) (by kernel_rfl) (fun hc2 => ?_) (fun hc2 => ?_)
  · have hc2' := hc2; try simp only [bfs, ne_eq] at hc2'
    refine WP_seq (WP_region (CAL 14 [] (.s (.bool true)) [] (fun _ nV w h => ferriedL_is hfe w (h.ft 5 5) (h.ft 6 4) (h.ft 7 3) (h.ft 8 1) (h.ft 9 0) (h.ft 10 2)) ?_))
    refine WPA tt_ok ?_
    refine WP_ret ?_
    exact ⟨.s (.bool true), by kernel_rfl, fun nV w' h => ⟨by rw [show CrossingLeastL b n = true from by unfold CrossingLeastL; simp only [hc2, cond_true, cond_false]]; rfl, h.bel⟩⟩
  have hc2' := hc2; try simp only [bfs, ne_eq] at hc2'
  refine WP_skip ?_
  have hvX := sound_valid (by assumption)
  have he := hvX.each.1
  have hnt := hvX.nt
  have hnt1 := hvX.nt.1
  have hnt4 := hvX.nt.2
  have hcr := hvX.fw.cr
  have htu := hvX.turn
  have hsh := hvX.shore
  have hns := hvX.fw.nships
  have hng := hvX.fw.nsights
  refine WP_seq (WP_draw (by kernel_rfl) (by kernel_rfl) ?_)
  refine QAIX tt_ok 0 3 [] (by kernel_rfl) (fun hG => ⟨by omega, by omega⟩) ?_
  refine QARD tt_ok 12 0 1 0 [] 38 [.int .i64 n.1, .int .i64 n.2.1, .int .i64 n.2.2] (.int .i64 n.1) (by kernel_rfl) (by kernel_rfl) (by kernel_rfl) (fun _ => rfl) ?_
  refine QCALL 15 [.s (.int .i64 n.1), .s (.int .i64 2)] (.s (.int .i64 (modF n.1 2))) [] (by kernel_rfl) (goes_of (by kernel_rfl)) (by kernel_rfl) (by kernel_rfl) (fun hG nV w h => modF_calls  n.1 2 w  ) ?_
  refine QAIX tt_ok 1 3 [] (by kernel_rfl) (fun hG => ⟨by omega, by omega⟩) ?_
  refine QARD tt_ok 12 1 1 0 [] 38 [.int .i64 n.1, .int .i64 n.2.1, .int .i64 n.2.2] (.int .i64 n.2.1) (by kernel_rfl) (by kernel_rfl) (by kernel_rfl) (fun _ => rfl) ?_
  refine QCALL 15 [.s (.int .i64 n.2.1), .s (.int .i64 201)] (.s (.int .i64 (modF n.2.1 201))) [] (by kernel_rfl) (goes_of (by kernel_rfl)) (by kernel_rfl) (by kernel_rfl) (fun hG nV w h => modF_calls  n.2.1 201 w  ) ?_
  refine QAIX tt_ok 2 3 [] (by kernel_rfl) (fun hG => ⟨by omega, by omega⟩) ?_
  refine QARD tt_ok 12 2 1 0 [] 38 [.int .i64 n.1, .int .i64 n.2.1, .int .i64 n.2.2] (.int .i64 n.2.2) (by kernel_rfl) (by kernel_rfl) (by kernel_rfl) (fun _ => rfl) ?_
  refine QCALL 15 [.s (.int .i64 n.2.2), .s (.int .i64 61)] (.s (.int .i64 (modF n.2.2 61))) [] (by kernel_rfl) (goes_of (by kernel_rfl)) (by kernel_rfl) (by kernel_rfl) (fun hG nV w h => modF_calls  n.2.2 61 w  ) ?_
  refine WPQ_all tt_ok (by kernel_rfl) ?_
  refine WSR tt_ok 4 ?_
  refine CAL 16 [.g (xQ b), .s (.int .i64 (modF n.1 2)), .s (.int .i64 (modF n.2.1 201)), .s (.int .i64 (modF n.2.2 61))] (.t [(false, [.int .i64 (sureA b (modF n.1 2) (modF n.2.1 201) (modF n.2.2 61)).1]), (false, [.int .i64 (sureA b (modF n.1 2) (modF n.2.1 201) (modF n.2.2 61)).2])]) [] (fun hG nV w h => sureA_calls (nV 0) (nV 1) (nV 2) (nV 3) (nV 4) b (modF n.1 2) (modF n.2.1 201) (modF n.2.2 61) w (h.rd 0 24) (h.rd 1 112) (h.rd 2 103) (h.rd 3 105) (h.rd 4 60) (h.ft 5 5) (h.ft 6 4) (h.ft 7 3) (h.ft 8 1) (h.ft 9 0) (h.ft 10 2) ) ?_
  refine WPA tt_ok ?_
  refine WP_seq (WP_seq (WP_region (WPO_run tt_ok 1 (by kernel_rfl) ?_)))
  refine CAL 17 [.g (xQ b)] (.s (.bool (true2L b))) [] (fun hG nV w h => true2L_calls (nV 0) (nV 1) (nV 2) (nV 3) (nV 4) b w (h.rd 0 24) (h.rd 1 112) (h.rd 2 103) (h.rd 3 105) (h.rd 4 60) (h.ft 5 5) (h.ft 6 4) (h.ft 7 3) ) ?_
  refine WPA tt_ok ?_
  refine WP_cond (!(true2L b)) (by kernel_rfl) (fun hc4 => ?_) (fun hc4 => ?_)
  · have hc4' := hc4; try simp only [bfs, ne_eq] at hc4'
    refine WSR tt_ok 7 ?_
    refine CAL 14 [] (.s (.bool true)) [(((sureA b (modF n.1 2) (modF n.2.1 201) (modF n.2.2 61)).2 == 92) && ((sureA b (modF n.1 2) (modF n.2.1 201) (modF n.2.2 61)).1 == 0), true)] (fun _ nV w h => ferriedL_is hfe w (h.ft 5 5) (h.ft 6 4) (h.ft 7 3) (h.ft 8 1) (h.ft 9 0) (h.ft 10 2)) ?_
    refine WPA tt_ok ?_
    refine WP_ret ?_
    exact ⟨.s (.bool ((((sureA b (modF n.1 2) (modF n.2.1 201) (modF n.2.2 61)).2 == 92) && ((sureA b (modF n.1 2) (modF n.2.1 201) (modF n.2.2 61)).1 == 0)) || false)), by kernel_rfl, fun nV w' h => ⟨by rw [show CrossingLeastL b n = ((((sureA b (modF n.1 2) (modF n.2.1 201) (modF n.2.2 61)).2 == 92) && ((sureA b (modF n.1 2) (modF n.2.1 201) (modF n.2.2 61)).1 == 0)) || false) from by unfold CrossingLeastL; simp only [hc2, hc4, cond_true, cond_false]]; rfl, h.bel⟩⟩
  have hc4' := hc4; try simp only [bfs, ne_eq] at hc4'
  refine WP_skip ?_
  refine WSR tt_ok 8 ?_
  refine CAL 18 [.g (xQ b), .s (.int .i64 (modF n.1 2)), .s (.int .i64 (modF n.2.1 201)), .s (.int .i64 (modF n.2.2 61))] (.s (.int .i64 (levelL b (modF n.1 2) (modF n.2.1 201) (modF n.2.2 61)))) [((sureA b (modF n.1 2) (modF n.2.1 201) (modF n.2.2 61)).2 == 0, true)] (fun hG nV w h => levelL_calls (nV 0) (nV 1) (nV 2) (nV 3) (nV 4) b (modF n.1 2) (modF n.2.1 201) (modF n.2.2 61) w (h.rd 0 24) (h.rd 1 112) (h.rd 2 103) (h.rd 3 105) (h.rd 4 60) (h.ft 5 5) (h.ft 6 4) (h.ft 7 3) (h.ft 8 1) (h.ft 9 0) (h.ft 10 2) (by first | assumption | omega | (simp only [List.length_set, List.nil_append, List.length_append, List.length_nil]; omega))) ?_
  refine WPO_run tt_ok 3 (by kernel_rfl) ?_
  refine CAL 14 [] (.s (.bool true)) [(((sureA b (modF n.1 2) (modF n.2.1 201) (modF n.2.2 61)).2 == 0) && ((sureA b (modF n.1 2) (modF n.2.1 201) (modF n.2.2 61)).1 == (levelL b (modF n.1 2) (modF n.2.1 201) (modF n.2.2 61))), true)] (fun _ nV w h => ferriedL_is hfe w (h.ft 5 5) (h.ft 6 4) (h.ft 7 3) (h.ft 8 1) (h.ft 9 0) (h.ft 10 2)) ?_
  refine WPA tt_ok ?_
  refine WP_ret ?_
  exact ⟨.s (.bool ((((sureA b (modF n.1 2) (modF n.2.1 201) (modF n.2.2 61)).2 == 0) && ((sureA b (modF n.1 2) (modF n.2.1 201) (modF n.2.2 61)).1 == (levelL b (modF n.1 2) (modF n.2.1 201) (modF n.2.2 61)))) || false)), by kernel_rfl, fun nV w' h => ⟨by rw [show CrossingLeastL b n = ((((sureA b (modF n.1 2) (modF n.2.1 201) (modF n.2.2 61)).2 == 0) && ((sureA b (modF n.1 2) (modF n.2.1 201) (modF n.2.2 61)).1 == (levelL b (modF n.1 2) (modF n.2.1 201) (modF n.2.2 61)))) || false) from by unfold CrossingLeastL; simp only [hc2, hc4, cond_true, cond_false]]; rfl, h.bel⟩⟩
theorem isHourL_iff {x : LBook} (hv : ValidL x) {n : Int} : isHourL x n = true ↔ 0 ≤ n ∧ n < x.tides.length := by
  have := hv.nt
  unfold isHourL withinL
  rw [wrapI (by omega) (by omega)]
  simp only [Bool.and_eq_true, decide_eq_true_eq]
  omega
theorem isShoreL_iff {n : Int} : isShoreL n = true ↔ 0 ≤ n ∧ n ≤ 1 := by unfold isShoreL withinL; simp [Bool.and_eq_true]
theorem isLoadL_iff {n : Int} : isLoadL n = true ↔ 0 ≤ n ∧ n ≤ 200 := by unfold isLoadL withinL; simp [Bool.and_eq_true]
theorem lands_no {x : LBook} (hv : ValidL x) {sh hour load : Int} (h : (x.tides.length : Int) ≤ hour) : (landsL x sh hour load).1 = 0 := by
  unfold landsL
  have : isHourL x hour = false := by
    cases h1 : isHourL x hour with
    | false => rfl
    | true => have := (isHourL_iff hv).1 h1; omega
  rw [this, Bool.and_false, Bool.false_and, Bool.and_false]
  cases askNL x != 0 <;> rfl
theorem lands_ok {x : LBook} (hv : ValidL x) (hr : (rightL x).1 = true) {sh hour load : Int} (h1 : 0 ≤ sh ∧ sh ≤ 1) (h2 : 0 ≤ hour ∧ hour < x.tides.length) (h3 : 0 ≤ load ∧ load ≤ 200) : (landsL x sh hour load).2 = 0 := by
  have hc := checkL_valid.2 hv
  have ha : (askTL x != 0) = false := by
    unfold rightL at hr
    rw [hc] at hr
    have h9 : decide (((canF x).length : Int) > 0) = true := hr
    have := of_decide_eq_true h9
    unfold askTL
    rw [if_neg (by omega)]; rfl
  unfold landsL
  rw [hc, isShoreL_iff.2 h1, (isHourL_iff hv).2 h2, isLoadL_iff.2 h3, ha]
  rfl
theorem hour_in {m e : Int} (hm : 0 ≤ m ∧ m ≤ 1000) (he : 1 ≤ e) : IntKind.i64.wrap (Int.tdiv m e) = m / e ∧ 0 ≤ m / e ∧ m / e ≤ m := by
  have h0 : Int.tdiv m e = m / e := Int.tdiv_eq_ediv_of_nonneg hm.1
  have h1 : 0 ≤ m / e := Int.ediv_nonneg hm.1 (by omega)
  have h2 : m / e ≤ m := Int.ediv_le_self e hm.1
  exact ⟨by rw [h0, wrapI (by omega) (by omega)], h1, h2⟩
theorem right_lan {b : XBook} (hr : rightX b = true) : (rightL b.lan).1 = true := (Bool.and_eq_true_iff.1 hr).1
theorem level_round {b : XBook} (hb : ValidX b) (hr : rightX b = true) {sh load m n : Int} (h1 : 0 ≤ sh ∧ sh ≤ 1) (h2 : 0 ≤ load ∧ load ≤ 200) (h3 : 0 ≤ m ∧ m ≤ 1000) (hn : 0 ≤ n) :
    (bif decide ((IntKind.i64.wrap (Int.tdiv m b.each)) ≥ (b.lan.tides.length : Int)) then (.go 0 : Bd Int Int) else (bif (landsL b.lan sh (IntKind.i64.wrap (Int.tdiv m b.each)) load).2 != 0 then .ret (-1) else .go (mn n (landsL b.lan sh (IntKind.i64.wrap (Int.tdiv m b.each)) load).1))) = .go (min n (landsX b (sh, m) load)) := by
  obtain ⟨e1, e2, e3⟩ := hour_in h3 hb.each.1
  unfold landsX
  simp only [e1]
  by_cases h : m / b.each ≥ (b.lan.tides.length : Int)
  · rw [decide_eq_true h, cond_true, lands_no hb.lan h, Int.min_eq_right hn]
  rw [decide_eq_false h, cond_false, lands_ok hb.lan (right_lan hr) h1 ⟨e2, by omega⟩ h2, mn_spec]
  rfl
theorem levelL_T {b : XBook} (hb : ValidX b) (hr : rightX b = true) {sh load m : Int} (h1 : 0 ≤ sh ∧ sh ≤ 1) (h2 : 0 ≤ load ∧ load ≤ 200) (h3 : 0 ≤ m ∧ m ≤ 60) : levelL b sh load m = min (min (clearF b.fw [] m) (landsX b (sh, m) load)) (landsX b (arrivesX b (sh, m)) load) := by
  have hcr := hb.fw.cr
  have hc := Lw.clear_in hb.fw (right_fw hb hr) m
  have hx := landsX_range b (sh, m) load
  unfold levelL
  rw [Lw.clearA_T hb.fw (right_fw hb hr) h3.1 h3.2]
  have w1 : IntKind.i64.wrap (m + b.fw.cr) = m + b.fw.cr := wrapI (by omega) (by omega)
  have w2 : IntKind.i64.wrap (1 - sh) = 1 - sh := wrapI (by omega) (by omega)
  have r0 : levelL_b1 b sh load m 0 (clearF b.fw [] m) = .go (min (clearF b.fw [] m) (landsX b (sh, m) load)) := by
    have h := level_round hb hr (sh := sh) (load := load) (m := m) (n := clearF b.fw [] m) h1 h2 (by omega) hc.1
    exact h
  have r1 : levelL_b1 b sh load m 1 (min (clearF b.fw [] m) (landsX b (sh, m) load)) = .go (min (min (clearF b.fw [] m) (landsX b (sh, m) load)) (landsX b (1 - sh, m + b.fw.cr) load)) := by
    have := level_round hb hr (sh := 1 - sh) (load := load) (m := m + b.fw.cr) (n := min (clearF b.fw [] m) (landsX b (sh, m) load)) (by omega) h2 (by omega) (by omega)
    rw [← this]
    show (bif decide ((IntKind.i64.wrap (Int.tdiv (IntKind.i64.wrap (m + b.fw.cr)) b.each)) ≥ (b.lan.tides.length : Int)) then (.go 0 : Bd Int Int) else (bif (landsL b.lan (IntKind.i64.wrap (1 - sh)) (IntKind.i64.wrap (Int.tdiv (IntKind.i64.wrap (m + b.fw.cr)) b.each)) load).2 != 0 then .ret (-1) else .go (mn _ (landsL b.lan (IntKind.i64.wrap (1 - sh)) (IntKind.i64.wrap (Int.tdiv (IntKind.i64.wrap (m + b.fw.cr)) b.each)) load).1))) = _
    rw [w1, w2]
  have ea : arrivesX b (sh, m) = (1 - sh, m + b.fw.cr) := by unfold arrivesX; simp only [w1, w2]
  rw [ea]
  have hl : loopR (levelL_c1 b sh load m) (levelL_b1 b sh load m) 2 0 (clearF b.fw [] m) = .brk (min (min (clearF b.fw [] m) (landsX b (sh, m) load)) (landsX b (1 - sh, m + b.fw.cr) load)) := by
    rw [loopR_step (N := 2) (k := 0) (by omega) (by simp [levelL_c1]), r0]
    simp only
    rw [loopR_step (N := 2) (k := 1) (by omega) (by simp [levelL_c1]), r1]
    rfl
  simp only [show ((0 : Int) != 0) = false from rfl, cond_false]
  rw [hl]
theorem mod2 (n : Int) : 0 ≤ modF n 2 ∧ modF n 2 ≤ 1 := by have := modF_in n 2 (by omega) (by omega); omega
theorem mod201 (n : Int) : 0 ≤ modF n 201 ∧ modF n 201 ≤ 200 := by have := modF_in n 201 (by omega) (by omega); omega
theorem mod61 (n : Int) : 0 ≤ modF n 61 ∧ modF n 61 ≤ 60 := by have := modF_in n 61 (by omega) (by omega); omega
theorem CrossingLeast_true (b : XBook) (n : Int × Int × Int) : CrossingLeastL b n = true := by
  unfold CrossingLeastL
  cases hs : !(soundL b) with
  | true => rfl
  | false =>
    have hb := sound_valid hs
    rw [cond_false, true2_eq hb]
    cases hr : rightX b with
    | false => rw [sureA_F hb (mod2 _) (mod201 _) (mod61 _) hr]; rfl
    | true =>
      rw [sureA_T hb (mod2 _) (mod201 _) (mod61 _) hr, levelL_T hb hr (mod2 _) (mod201 _) (mod61 _)]
      simp
def nxt (S : Int → Bool) (m : Int) : Option Int := ((List.range 61).find? fun k : Nat => decide (m ≤ (k : Int)) && S k).map fun k : Nat => (k : Int)
theorem find_range_some {N : Nat} {p : Nat → Bool} {k : Nat} : (List.range N).find? p = some k ↔ k < N ∧ p k = true ∧ ∀ j, j < k → p j = false := by
  rw [List.find?_range_eq_some]
  simp only [List.mem_range, Bool.not_eq_true', and_comm, and_left_comm]
theorem nxt_some {S : Int → Bool} {m x : Int} : nxt S m = some x ↔ ((0 ≤ x ∧ x ≤ 60) ∧ m ≤ x) ∧ S x = true ∧ ∀ y, 0 ≤ y → m ≤ y → y < x → S y = false := by
  unfold nxt
  rw [Option.map_eq_some_iff]
  constructor
  · rintro ⟨k, hk, rfl⟩
    obtain ⟨h1, h2, h3⟩ := find_range_some.1 hk
    simp only [Bool.and_eq_true, decide_eq_true_eq] at h2
    refine ⟨⟨by omega, h2.1⟩, h2.2, fun y h0 h4 h5 => ?_⟩
    have := h3 y.toNat (by omega)
    rw [show ((y.toNat : Nat) : Int) = y by omega, decide_eq_true h4, Bool.true_and] at this
    exact this
  rintro ⟨⟨h1, h2⟩, h3, h4⟩
  refine ⟨x.toNat, find_range_some.2 ⟨by omega, ?_, fun j hj => ?_⟩, by omega⟩
  · rw [show ((x.toNat : Nat) : Int) = x by omega, decide_eq_true h2, h3]; rfl
  cases h5 : decide (m ≤ (j : Int)) with
  | false => rfl
  | true => rw [h4 j (by omega) (of_decide_eq_true h5) (by omega)]; rfl
theorem nxt_none {S : Int → Bool} {m : Int} : nxt S m = none ↔ ∀ y, 0 ≤ y → m ≤ y → y ≤ 60 → S y = false := by
  unfold nxt
  rw [Option.map_eq_none_iff, List.find?_eq_none]
  constructor
  · intro h y h0 h1 h2
    have := h y.toNat (List.mem_range.2 (by omega))
    rw [show ((y.toNat : Nat) : Int) = y by omega, decide_eq_true h1, Bool.true_and] at this
    simpa using this
  intro h k hk
  have hk := List.mem_range.1 hk
  simp only [Bool.and_eq_true, decide_eq_true_eq, not_and]
  intro h1
  rw [h k (by omega) h1 (by omega)]; decide
theorem nxt_congr {S T : Int → Bool} {m : Int} (h : ∀ y, 0 ≤ y → y ≤ 60 → S y = T y) : nxt S m = nxt T m := by
  unfold nxt
  congr 1
  have key : ∀ l : List Nat, (∀ k ∈ l, k ≤ 60) → l.find? (fun k : Nat => decide (m ≤ (k : Int)) && S k) = l.find? (fun k : Nat => decide (m ≤ (k : Int)) && T k) := by
    intro l
    induction l with
    | nil => intro _; rfl
    | cons x r ih =>
      intro hl
      simp only [List.find?_cons]
      rw [h x (by omega) (by have := hl x List.mem_cons_self; omega), ih fun k hk => hl k (List.mem_cons_of_mem _ hk)]
  exact key _ fun k hk => by have := List.mem_range.1 hk; omega
def SX (b : XBook) (sh load m : Int) : Bool := sureX b (sh, m) load
theorem firstU_nxt {b : XBook} {sh load m : Int} (h0 : 0 ≤ m) : firstU b (sh, m) load = match nxt (SX b sh load) m with | some x => (x, true) | none => (0, false) := by
  have hf := firstU_is (b := b) (p := (sh, m)) (load := load) h0
  generalize hr : firstU b (sh, m) load = r at hf
  obtain ⟨r1, r2⟩ := r
  cases r2 with
  | true =>
    obtain ⟨⟨h1, h2⟩, h3, h4⟩ := hf.yes rfl
    have : nxt (SX b sh load) m = some r1 := nxt_some.2 ⟨⟨⟨by simp only at h1; omega, h2⟩, h1⟩, h3, fun y _ h5 h6 => h4 y h5 h6⟩
    rw [this]
  | false =>
    obtain ⟨h1, h2⟩ := hf.no rfl
    have : nxt (SX b sh load) m = none := nxt_none.2 fun y _ h3 h4 => h2 y h3 h4
    rw [this]
    simp only at h1; rw [h1]
def goT (S : Int → Int → Int → Bool) (cr turn : Int) : List Trip → Int → Int → List (Int × Int)
  | [], _, _ => []
  | x :: r, sh, m => match nxt (S sh x.load) (max m x.ready) with
    | none => []
    | some n => (max m x.ready, n) :: goT S cr turn r (1 - sh) (n + cr + turn)
def sumW (l : List (Int × Int)) : Int := l.foldl (fun n x => n + (x.2 - x.1)) 0
theorem foldl_add (l : List (Int × Int)) (a : Int) : l.foldl (fun n x => n + (x.2 - x.1)) a = a + sumW l := by
  unfold sumW
  induction l generalizing a with
  | nil => simp
  | cons x r ih => simp only [List.foldl_cons]; rw [ih, ih (0 + _)]; omega
theorem sumW_cons (x : Int × Int) (l : List (Int × Int)) : sumW (x :: l) = (x.2 - x.1) + sumW l := by
  show l.foldl _ (0 + (x.2 - x.1)) = _
  rw [foldl_add]; omega
def goB (b : XBook) : List (Int × Int) := goT (SX b) b.fw.cr b.turn b.trips b.shore 0
theorem depart_go {b : XBook} (hcr : 1 ≤ b.fw.cr ∧ b.fw.cr ≤ 20) (htu : 0 ≤ b.turn ∧ b.turn ≤ 30) (hnt : b.trips.length ≤ 4) (hrd : ∀ x ∈ b.trips, 0 ≤ x.ready ∧ x.ready ≤ 60) : ∀ (r : Nat) (p : Int × Int) (ds : List Int) (wt : Int), ds.length + r = b.trips.length → (0 ≤ p.1 ∧ p.1 ≤ 1) → (0 ≤ p.2 ∧ p.2 ≤ 200) → (-1000 * ds.length ≤ wt ∧ wt ≤ 1000 * ds.length) →
    departD b r p ds wt = (ds ++ (goT (SX b) b.fw.cr b.turn (b.trips.drop ds.length) p.1 p.2).map Prod.snd, wt + sumW (goT (SX b) b.fw.cr b.turn (b.trips.drop ds.length) p.1 p.2)) := by
  intro r
  induction r with
  | zero =>
    intro p ds wt h1 _ _ _
    have : b.trips.drop ds.length = [] := List.drop_eq_nil_iff.2 (by omega)
    rw [this]
    unfold departD departS
    rw [show ((ds.length : Int) == (b.trips.length : Int)) = true from by simp; omega]
    simp [goT, sumW]
  | succ r ih =>
    intro p ds wt h1 hp h2 hw
    have hlt : ds.length < b.trips.length := by omega
    have hdr : b.trips.drop ds.length = b.trips.getD ds.length zTrip :: b.trips.drop (ds.length + 1) := by
      rw [List.drop_eq_getElem_cons hlt, List.getD_eq_getElem?_getD, List.getElem?_eq_getElem hlt]; rfl
    have hrx := hrd _ (getD_mem (z := zTrip) hlt)
    rw [hdr]
    generalize b.trips.getD ds.length zTrip = x at *
    have hm : mx p.2 x.ready = max p.2 x.ready := mx_spec _ _
    unfold departD departS
    rw [show ((ds.length : Int) == (b.trips.length : Int)) = false from by simp; omega]
    simp only [cond_false, show ((ds.length : Int)).toNat = ds.length by omega]
    have hdr2 : b.trips.getD ds.length zTrip = x := by
      have := congrArg List.head? hdr
      rw [List.drop_eq_getElem_cons hlt] at this
      simp only [List.head?_cons, Option.some.injEq] at this
      rw [List.getD_eq_getElem?_getD, List.getElem?_eq_getElem hlt]; exact this
    rw [hdr2, hm, firstU_nxt (by omega)]
    simp only [goT]
    cases hn : nxt (SX b p.1 x.load) (max p.2 x.ready) with
    | none => simp [sumW]
    | some n =>
      obtain ⟨⟨hn1, hn2⟩, _, _⟩ := nxt_some.1 hn
      simp only [Bool.not_true, cond_false]
      have w1 : IntKind.i64.wrap (1 - p.1) = 1 - p.1 := wrapI (by omega) (by omega)
      have w2 : IntKind.i64.wrap (n + b.fw.cr) = n + b.fw.cr := wrapI (by omega) (by omega)
      have w3 : IntKind.i64.wrap (n + b.fw.cr + b.turn) = n + b.fw.cr + b.turn := wrapI (by omega) (by omega)
      have w4 : IntKind.i64.wrap (wt + n) = wt + n := wrapI (by omega) (by omega)
      have w5 : IntKind.i64.wrap (wt + n - max p.2 x.ready) = wt + n - max p.2 x.ready := wrapI (by omega) (by omega)
      simp only [arrivesX, w1, w2, w3, w4, w5]
      rw [ih _ _ _ (by rw [List.length_append, List.length_singleton]; omega) ⟨by show 0 ≤ 1 - p.1; omega, by show 1 - p.1 ≤ 1; omega⟩ ⟨by show 0 ≤ n + b.fw.cr + b.turn; omega, by show n + b.fw.cr + b.turn ≤ 200; omega⟩ (by rw [List.length_append, List.length_singleton]; omega)]
      rw [List.length_append, List.length_singleton, sumW_cons]
      refine Prod.ext ?_ ?_
      · simp
      simp only; omega
theorem plan_go {b : XBook} (hb : ValidX b) : planX b = ((goB b).map Prod.snd, sumW (goB b)) := by
  unfold planX
  have h := depart_go hb.fw.cr hb.turn hb.nt.2 (fun x hx => (hb.trips x hx).2) b.trips.length (b.shore, 0) [] 0 (by simp) hb.shore ⟨by simp, by simp⟩ ⟨by simp, by simp⟩
  simp only [List.length_nil, List.drop_zero, List.nil_append, Int.zero_add] at h
  rw [h]; rfl
theorem goT_len (S : Int → Int → Int → Bool) (cr turn : Int) : ∀ (l : List Trip) (sh m : Int), (goT S cr turn l sh m).length ≤ l.length := by
  intro l
  induction l with
  | nil => intro sh m; exact Nat.le_refl _
  | cons x r ih =>
    intro sh m
    simp only [goT]
    cases nxt (S sh x.load) (max m x.ready) with
    | none => simp
    | some n => simp only [List.length_cons]; have := ih (1 - sh) (n + cr + turn); omega
theorem goT_congr {S T : Int → Int → Int → Bool} {cr turn : Int} : ∀ (l : List Trip) (sh m : Int), (0 ≤ sh ∧ sh ≤ 1) → (∀ x ∈ l, ∀ sh, 0 ≤ sh → sh ≤ 1 → ∀ y, 0 ≤ y → y ≤ 60 → S sh x.load y = T sh x.load y) → goT S cr turn l sh m = goT T cr turn l sh m := by
  intro l
  induction l with
  | nil => intro sh m _ _; rfl
  | cons x r ih =>
    intro sh m hs h
    simp only [goT]
    rw [nxt_congr (h x List.mem_cons_self sh hs.1 hs.2)]
    cases nxt (T sh x.load) (max m x.ready) with
    | none => rfl
    | some n => simp only; rw [ih _ _ (by omega) fun y hy => h y (List.mem_cons_of_mem _ hy)]
def nxtA (S : Int → Bool) (m : Int) : Int × Int := match nxt S m with | some x => (x, 0) | none => (0, 4)
section
variable {b : XBook} (hb : ValidX b) {sh load m : Int} (h1 : 0 ≤ sh ∧ sh ≤ 1) (h2 : 0 ≤ load ∧ load ≤ 200) (h3 : 0 ≤ m ∧ m ≤ 60)
include hb h1 h2 h3
end
section
variable {b : XBook} (hb : ValidX b)
include hb
theorem planA_T (hr : rightX b = true) : planA b = if (goB b).length < b.trips.length then ([], 4) else ((goB b).map Prod.snd, 0) := by
  unfold planA plnX
  rw [err_valid hb, hr, plan_go hb, List.length_map]
  by_cases h : (goB b).length < b.trips.length
  · rw [if_pos h, decide_eq_true (by omega)]; rfl
  rw [if_neg h, decide_eq_false (by omega)]; rfl
theorem waitsA_T (hr : rightX b = true) : waitsA b = if (goB b).length < b.trips.length then (0, 4) else (sumW (goB b), 0) := by
  unfold waitsA plnX
  rw [err_valid hb, hr, plan_go hb, List.length_map]
  by_cases h : (goB b).length < b.trips.length
  · rw [if_pos h, decide_eq_true (by omega)]; rfl
  rw [if_neg h, decide_eq_false (by omega)]; rfl
theorem manyA_T (hr : rightX b = true) : manyA b = (((goB b).length : Int), 0) := by
  unfold manyA
  rw [err_valid hb, hr, plan_go hb, List.length_map]; rfl
end
theorem goB_len {b : XBook} : (goB b).length ≤ b.trips.length := goT_len _ _ _ _ _ _
theorem loopR_last {ρ : Type} {c : Nat → Int → Bool} {b : Nat → Int → Bd Int ρ} {N : Nat} (bad : Nat → Bool) (hc : ∀ k v, k < N → c k v = true) (hb : ∀ k v, k < N → b k v = bif bad k then .brk v else .go (k : Int)) :
    loopR c b N 0 0 = .brk (((match (List.range N).find? bad with | some k => k - 1 | none => N - 1 : Nat)) : Int) := by
  have key : ∀ (m k : Nat), k + m = N → (∀ j, j < k → bad j = false) → loopR c b (N - k) k (((k - 1 : Nat)) : Int) = .brk (((match (List.range N).find? bad with | some k => k - 1 | none => N - 1 : Nat)) : Int) := by
    intro m
    induction m with
    | zero =>
      intro k h hj
      have hn : (List.range N).find? bad = none := List.find?_eq_none.2 fun x hx => by rw [hj x (by have := List.mem_range.1 hx; omega)]; decide
      rw [hn, show N - k = 0 by omega, show k = N by omega]; rfl
    | succ m ih =>
      intro k h hj
      rw [loopR_step (by omega) (hc k _ (by omega)), hb k _ (by omega)]
      cases hbk : bad k with
      | true =>
        have hs : (List.range N).find? bad = some k := by
          rw [List.find?_range_eq_some]
          exact ⟨hbk, List.mem_range.2 (by omega), fun j hj' => by rw [hj j hj']; rfl⟩
        rw [hs]; rfl
      | false =>
        have := ih (k + 1) (by omega) (fun j hj' => by
          rcases Nat.lt_succ_iff_lt_or_eq.1 hj' with h1 | rfl
          · exact hj j h1
          exact hbk)
        exact this
  exact key N 0 (by omega) (fun j h => by omega)
abbrev dl (b : XBook) (t : Nat) (k : Int) : XBook := ⟨b.lan, b.fw, b.each, b.shore, b.turn, b.trips.set t ⟨(b.trips.getD t zTrip).load, (b.trips.getD t zTrip).ready + k⟩⟩
theorem dl_valid {b : XBook} (hb : ValidX b) {t : Nat} (ht : t < b.trips.length) {k : Int} (h1 : 0 ≤ (b.trips.getD t zTrip).ready + k) (h2 : (b.trips.getD t zTrip).ready + k ≤ 60) : ValidX (dl b t k) := by
  refine ⟨hb.lan, hb.fw, hb.each, hb.shore, hb.turn, by simp only [dl, List.length_set]; exact hb.nt, fun x hx => ?_⟩
  rcases List.mem_or_eq_of_mem_set hx with h | rfl
  · exact hb.trips x h
  exact ⟨(hb.trips _ (getD_mem (z := zTrip) ht)).1, h1, h2⟩
def lastG (b : XBook) : Int := ((goB b).map Prod.snd).getD (b.trips.length - 1) 0
def badK (b : XBook) (t : Nat) (k : Nat) : Bool := decide ((goB (dl b t k)).length < b.trips.length) || decide (lastG (dl b t k) > lastG b)
section
variable {b : XBook} (hb : ValidX b) (hr : rightX b = true) (hg : (goB b).length = b.trips.length) {t : Nat} (ht : t < b.trips.length)
include hb hr hg ht
theorem late_spec : lateA b (t : Int) = ((((match (List.range (61 - (b.trips.getD t zTrip).ready).toNat).find? (badK b t) with | some k => k - 1 | none => (61 - (b.trips.getD t zTrip).ready).toNat - 1 : Nat)) : Int), 0) := by
  have hnt := hb.nt
  have hrd := (hb.trips _ (getD_mem (z := zTrip) ht)).2
  have hw : IntKind.i64.wrap ((b.trips.length : Int) - 1) = (b.trips.length : Int) - 1 := wrapI (by omega) (by omega)
  have hin : withinX (t : Int) 0 ((b.trips.length : Int) - 1) = true := by unfold withinX; simp only [Bool.and_eq_true, decide_eq_true_eq]; omega
  have hp : plnX b = ((goB b).map Prod.snd, sumW (goB b), 0) := by
    unfold plnX
    rw [plan_go hb, List.length_map, decide_eq_false (by omega)]; rfl
  have htn : ((t : Int)).toNat = t := by omega
  unfold lateA
  rw [hw, hin, err_valid hb, hr, hp, htn]
  simp only [if_true, beq_self_eq_true, cond_true, bne_self_eq_false, cond_false]
  rw [loopR_last (badK b t) (fun k v hk => ?_) (fun k v hk => ?_)]
  · simp only [lateA_c1, htn]
    rw [show IntKind.i64.wrap (60 - (b.trips.getD t zTrip).ready) = 60 - (b.trips.getD t zTrip).ready from wrapI (by omega) (by omega), wrapI (by omega) (by omega), decide_eq_true]
    omega
  have hk2 : (b.trips.getD t zTrip).ready + (k : Int) ≤ 60 := by omega
  have hv := dl_valid hb ht (k := (k : Int)) (by omega) hk2
  have hpx := plan_go hv
  have hln := goB_len (b := dl b t k)
  simp only [dl, List.length_set] at hln
  simp only [lateA_b1, htn, hp]
  rw [show IntKind.i64.wrap ((b.trips.getD t zTrip).ready + (k : Int)) = (b.trips.getD t zTrip).ready + (k : Int) from wrapI (by omega) (by omega)]
  rw [show planX (⟨b.lan, b.fw, b.each, b.shore, b.turn, b.trips.set t (⟨(b.trips.getD t zTrip).load, (b.trips.getD t zTrip).ready + (k : Int)⟩ : Trip)⟩ : XBook) = _ from hpx]
  simp only [List.length_map]
  rw [hg, show IntKind.i64.wrap ((b.trips.length : Int) - 1) = (b.trips.length : Int) - 1 from hw, show ((b.trips.length : Int) - 1).toNat = b.trips.length - 1 by omega]
  unfold badK lastG
  simp only [dl, List.length_set]
  congr 2
  rw [Bool.eq_iff_iff]
  simp only [decide_eq_true_eq]
  omega
end
def TT (sh load m : Int) : Bool := (if sh = 0 then ([18, 19, 30, 31, 32, 33, 34] : List Int) else [25, 26, 27, 28, 29, 30, 31, 32, 33, 34]).contains m
theorem own_check : checkX ownL = 0 := by kernel_rfl
theorem own_right : rightX ownL = true := by kernel_rfl
theorem own_table : ((List.range 61).all fun y : Nat => (List.range 2).all fun s : Nat => ([20, 0] : List Int).all fun l => SX ownL (s : Int) l (y : Int) == TT (s : Int) l (y : Int)) = true := by kernel_rfl
theorem own_SX {sh load m : Int} (h1 : 0 ≤ sh ∧ sh ≤ 1) (h2 : load = 20 ∨ load = 0) (h3 : 0 ≤ m ∧ m ≤ 60) : SX ownL sh load m = TT sh load m := by
  have := List.all_eq_true.1 own_table m.toNat (List.mem_range.2 (by omega))
  have := List.all_eq_true.1 this sh.toNat (List.mem_range.2 (by omega))
  have := List.all_eq_true.1 this load (by rcases h2 with rfl | rfl <;> simp)
  rw [beq_iff_eq, show ((sh.toNat : Nat) : Int) = sh by omega, show ((m.toNat : Nat) : Int) = m by omega] at this
  exact this
theorem own_go (k : Int) : goB (dl ownL 1 k) = goT TT 5 2 [⟨20, 0⟩, ⟨20, 0 + k⟩, ⟨0, 30⟩] 0 0 := by
  refine goT_congr (S := SX ownL) (T := TT) (cr := 5) (turn := 2) [⟨20, 0⟩, ⟨20, 0 + k⟩, ⟨0, 30⟩] 0 0 ⟨by decide, by decide⟩ (fun x hx sh h1 h2 y h3 h4 => own_SX ⟨h1, h2⟩ ?_ ⟨h3, h4⟩)
  simp only [List.mem_cons, List.not_mem_nil, or_false] at hx
  rcases hx with rfl | rfl | rfl
  · exact .inl rfl
  · exact .inl rfl
  exact .inr rfl
theorem own_go0 : goB ownL = [(0, 18), (25, 25), (32, 32)] := by
  have e : goT TT 5 2 [⟨20, 0⟩, ⟨20, 0 + 0⟩, ⟨0, 30⟩] 0 0 = [(0, 18), (25, 25), (32, 32)] := by kernel_rfl
  exact Eq.trans (own_go 0) e
def badT (k : Nat) : Bool := decide ((goT TT 5 2 [⟨20, 0⟩, ⟨20, 0 + (k : Int)⟩, ⟨0, 30⟩] 0 0).length < 3) || decide (((goT TT 5 2 [⟨20, 0⟩, ⟨20, 0 + (k : Int)⟩, ⟨0, 30⟩] 0 0).map Prod.snd).getD 2 0 > 32)
theorem own_bad (k : Nat) : badK ownL 1 k = badT k := by
  unfold badK lastG
  rw [own_go, own_go0]
  rfl
theorem own_late : lateA ownL 1 = (25, 0) := by
  have h := late_spec (checkX_valid.1 own_check) own_right (show (goB ownL).length = ownL.trips.length by rw [own_go0]; rfl) (t := 1) (by decide)
  have hf : (List.range (61 - (ownL.trips.getD 1 zTrip).ready).toNat).find? (badK ownL 1) = some 26 := by
    rw [show badK ownL 1 = badT from funext own_bad]
    kernel_rfl
  rw [hf] at h
  exact h
theorem own_sure : sureA ownL 0 20 18 = (2, 0) := by kernel_rfl
theorem own_next : nextX ownL 0 20 20 = (30, 0) := by kernel_rfl
theorem own_last : lastX ownL 0 20 29 = (19, 0) := by kernel_rfl
theorem own_plan : planA ownL = ([18, 25, 32], 0) := by
  rw [planA_T (checkX_valid.1 own_check) own_right, own_go0]; rfl
theorem own_waits : waitsA ownL = (18, 0) := by
  rw [waitsA_T (checkX_valid.1 own_check) own_right, own_go0]; rfl
theorem heavy_go : goB heavyL = [(0, 18), (25, 25)] := by
  have hc : checkX heavyL = 0 := by kernel_rfl
  have hp : planX heavyL = ([18, 25], 18) := by kernel_rfl
  have hg := plan_go (checkX_valid.1 hc)
  rw [hp] at hg
  have h1 : goT (SX heavyL) 5 2 [⟨20, 0⟩, ⟨20, 0⟩] 0 0 = [(0, 18), (25, 25)] := by
    have := goT_congr (S := SX ownL) (T := TT) (cr := 5) (turn := 2) [⟨20, 0⟩, ⟨20, 0⟩] 0 0 ⟨by decide, by decide⟩ (fun x hx sh h1 h2 y h3 h4 => own_SX ⟨h1, h2⟩ (by
      simp only [List.mem_cons, List.not_mem_nil, or_false] at hx
      rcases hx with rfl | rfl <;> exact .inl rfl) ⟨h3, h4⟩)
    have e : goT TT 5 2 [⟨20, 0⟩, ⟨20, 0⟩] 0 0 = [(0, 18), (25, 25)] := by kernel_rfl
    exact Eq.trans this e
  have hl : (goB heavyL).length = 2 := by
    have := congrArg (fun x : List Int × Int => x.1.length) hg
    simpa using this.symm
  have ht := h1
  have key : (goB heavyL).take 2 = goT (SX heavyL) 5 2 [⟨20, 0⟩, ⟨20, 0⟩] 0 0 := (goT_takeH).symm
  rw [← h1, ← key, List.take_of_length_le (by omega)]
where
  goT_takeH : goT (SX heavyL) 5 2 [⟨20, 0⟩, ⟨20, 0⟩] 0 0 = (goB heavyL).take 2 := by
    unfold goB
    show goT (SX heavyL) 5 2 [⟨20, 0⟩, ⟨20, 0⟩] 0 0 = (goT (SX heavyL) 5 2 [⟨20, 0⟩, ⟨20, 0⟩, ⟨60, 30⟩] 0 0).take 2
    simp only [goT]
    split
    · rfl
    split
    · rfl
    split <;> rfl
theorem heavy_many : manyA heavyL = (2, 0) := by
  have hc : checkX heavyL = 0 := by kernel_rfl
  rw [manyA_T (checkX_valid.1 hc) (show rightX heavyL = true from own_right), heavy_go]; rfl
theorem heavy_plan : planA heavyL = ([], 4) := by
  have hc : checkX heavyL = 0 := by kernel_rfl
  rw [planA_T (checkX_valid.1 hc) (show rightX heavyL = true from own_right), heavy_go]; rfl
theorem single_ship : shipA singleL = (1, 0) := by kernel_rfl
theorem ferriedL_true : ferriedL = true := by
  unfold ferriedL
  rw [own_sure, own_next, own_last, own_plan, own_waits, heavy_many, own_late, single_ship, heavy_plan]
  kernel_rfl
end Go.Proofs.YtpfglknbkpcfnaaDoor.X
namespace Go.Proofs.YtpfglknbkpcfnaaDoor.X
open Go Go.ChangeShapes Go.WideShapes Go.RowKit Go.Proofs.YtpfglknbkpcfnaaDoor.Eng Go.Proofs.YtpfglknbkpcfnaaDoor.Fw
set_option maxRecDepth 100000
namespace CrossingLeast
theorem door_met_crossingLeast (os : Os) (args : Array Value) : laidMetH Tryd.prog Rows.crossingLeastRow.laid ((World.doorLaid Tryd.prog 60 os).forCall (fun _ _ => 0) ⟨#[], args, []⟩).memory :=
  laidMetH_of_parts3 (fuel := 8) (laidMet_of_run' 8 (by kernel_rfl) (by kernel_rfl)) (by kernel_rfl) (by kernel_rfl)
theorem contract (H : Type) (enc : TypeId × Value → H) (W : World) (base : Nat) (args : Array Value) (ds gs : List (DataW H)) (before : List MemPlace)
    (hval : ∀ (j : Nat) t v, Tryd.f3.params[j]? = some t → args[j]? = some v → Value.okWide Tryd.prog W .any base t v)
    (hW : DataW.Whole enc Tryd.prog Tryd.f3.params.toList Rows.crossingLeastSpec.vars false W args.toList ds gs before)
    (hsz0 : (DataW.weightsEach Tryd.prog (Tryd.f3.params.toList ++ []) (ds ++ gs)).all (fun x => decide (x ≤ reachBytes)) = true) (hL : laidMetH Tryd.prog Rows.crossingLeastRow.laid W) (hS : W.ShapedOpen Tryd.prog) :
    Calls Tryd.prog 3 args W fun e W' => ∃ v, e = .returned v ∧ Rows.crossingLeastSpec.post enc Tryd.prog Tryd.f3 false true false false W args v W' := by
  have hW' := hW
  obtain ⟨p, q, hA0, hV, rfl, hfz, hnd⟩ := hW
  have hA : DataW.TrodAll enc Tryd.prog W 0 (fun _ => true) true Tryd.f3.params.toList args.toList ds p := hA0
  rw [Tryd.params3] at hA hval hsz0
  clear hA0
  obtain ⟨v0, vs0, d0, ds0, p0, q0, hargs, rfl, rfl, h0, r0⟩ := trodAll_cons hA
  obtain ⟨v1, vs1, d1, ds1, p1, q1, rfl, rfl, rfl, h1, r1⟩ := trodAll_cons r0
  obtain ⟨rfl, rfl, rfl⟩ := trodAll_nil r1
  obtain rfl : args = #[v0, v1] := by apply Array.ext'; rw [hargs]
  obtain ⟨rfl, rfl⟩ := trodVars_none hV
  have hsz : (DataW.weightsEach Tryd.prog [37, 38] [d0, d1]).all (fun x => decide (x ≤ reachBytes)) = true := by simpa using hsz0
  have hb0 : Wb Tryd.prog 37 d0 := Bd_each hsz (j := 0) rfl rfl
  obtain ⟨c0, rfl, ⟨g0_0, g0_1, g0_2, g0_3, g0_4, x0, y0, q0_0, q0_1, q0_2, q0_3, q0_4, q0_5, q0_6, q0_7, q0_8, q0_9, q0_10, q0_11, q0_12, q0_13, q0_14, q0_15, q0_16, q0_17, q0_18, q0_19, q0_20, q0_21, q0_22, q0_23, q0_24, _⟩⟩ := arg_agg Tryd.underlying37 (hval 0 37 v0 rfl rfl) h0 hb0 opn37
  rw [agg_of y0] at *
  have hb1 : Wb Tryd.prog 38 d1 := Bd_each hsz (j := 1) rfl rfl
  obtain ⟨c1, rfl, ⟨x1, y1, q1_0, q1_1, q1_2, _⟩⟩ := arg_arr Tryd.underlying38 (hval 1 38 v1 rfl rfl) h1 hb1 opn38
  rw [agg_of y1] at *
  have ha := cx_of hS hL
  have hc := CrossingLeastL_calls g0_0 g0_1 g0_2 g0_3 g0_4 x0 x1 W q0_0.1 q0_1.1 q0_2.1 q0_3.1 q0_4.1 ha.1 ha.2.1 ha.2.2.1 ha.2.2.2.1 ha.2.2.2.2.1 ha.2.2.2.2.2 ferriedL_true
  refine hc.mono fun e W' ⟨he, hb⟩ => ?_
  refine ⟨.bool true, he.trans (by rw [CrossingLeast_true x0 x1]), law_post laidOut (fun u hu => ?_) hW' rfl (by kernel_rfl) Tryd.underlying4 rfl rfl rfl hb⟩
  have hall : ([37, 38] : List TypeId).all (fun u => Tryd.prog.readableRec u && decide (u < Tryd.prog.types.size)) = true := by kernel_rfl
  have hu' : u ∈ ([37, 38] : List TypeId) := hu
  have := List.all_eq_true.1 hall u hu'
  simp only [Bool.and_eq_true, decide_eq_true_eq] at this
  exact this
theorem reads (os : Os) {H : Type} (enc : TypeId × Value → H) : ∃ places, DataW.whole enc Tryd.prog ((World.doorLaid Tryd.prog 60 os).forCall (fun _ _ => 0) ⟨#[], #[.agg #[.slice none 0 0, .int .i64 0, .int .i64 0, .int .i64 0, .int .i64 0, .int .i64 0, .int .i64 0, .int .i64 0, .int .i64 0, .int .i64 0, .int .i64 0, .int .i64 0, .int .i64 0, .slice none 0 0, .slice none 0 0, .int .i64 0, .int .i64 0, .int .i64 0, .int .i64 0, .int .i64 0, .slice none 0 0, .int .i64 0, .int .i64 0, .int .i64 0, .slice none 0 0], .agg #[.int .i64 0, .int .i64 0, .int .i64 0]], []⟩).memory Tryd.f3.params.toList Rows.crossingLeastSpec.vars false (#[.agg #[.slice none 0 0, .int .i64 0, .int .i64 0, .int .i64 0, .int .i64 0, .int .i64 0, .int .i64 0, .int .i64 0, .int .i64 0, .int .i64 0, .int .i64 0, .int .i64 0, .int .i64 0, .slice none 0 0, .slice none 0 0, .int .i64 0, .int .i64 0, .int .i64 0, .int .i64 0, .int .i64 0, .slice none 0 0, .int .i64 0, .int .i64 0, .int .i64 0, .slice none 0 0], .agg #[.int .i64 0, .int .i64 0, .int .i64 0]] : Array Value).toList 8 = some ([.agg [.agg [.nil, .agg [.agg [.agg [.lit (.int .i64 0), .lit (.int .i64 0)], .lit (.int .i64 0), .lit (.int .i64 0)], .agg [.agg [.lit (.int .i64 0), .lit (.int .i64 0)], .lit (.int .i64 0), .lit (.int .i64 0)]], .agg [.lit (.int .i64 0), .lit (.int .i64 0)], .lit (.int .i64 0), .lit (.int .i64 0), .nil], .agg [.nil, .agg [.lit (.int .i64 0), .lit (.int .i64 0)], .lit (.int .i64 0), .lit (.int .i64 0), .lit (.int .i64 0), .nil], .lit (.int .i64 0), .lit (.int .i64 0), .lit (.int .i64 0), .nil], .agg [.lit (.int .i64 0), .lit (.int .i64 0), .lit (.int .i64 0)]], [], places) :=
  ⟨[], by kernel_rfl⟩
set_option maxRecDepth 100000 in
theorem lifted (os : Os) (started : os.Started) (H : Type) (enc : TypeId × Value → H) (F : Stop.Interp) :
    ReturnsInHanded {} Tryd.checked os 3 .any ((OpenSpec.ofChange Rows.crossingLeastSpec).preRow enc Tryd.prog Tryd.f3 Rows.crossingLeastRow.domain false Rows.crossingLeastRow.laid) (((OpenSpec.ofChange Rows.crossingLeastSpec).at F).post enc Tryd.prog Tryd.f3 false true false false) := by
  obtain ⟨places, hx⟩ := reads os enc
  refine returnsInHanded_of_row (C := Tryd.checked) (s := OpenSpec.ofChange Rows.crossingLeastSpec) own started (by kernel_rfl) Tryd.func3
    (witness_row_atRef (enc := enc) (C := Tryd.checked) false (World.doorLaid Tryd.prog 60 os) #[.agg #[.slice none 0 0, .int .i64 0, .int .i64 0, .int .i64 0, .int .i64 0, .int .i64 0, .int .i64 0, .int .i64 0, .int .i64 0, .int .i64 0, .int .i64 0, .int .i64 0, .int .i64 0, .slice none 0 0, .slice none 0 0, .int .i64 0, .int .i64 0, .int .i64 0, .int .i64 0, .int .i64 0, .slice none 0 0, .int .i64 0, .int .i64 0, .int .i64 0, .slice none 0 0], .agg #[.int .i64 0, .int .i64 0, .int .i64 0]] rfl (by kernel_rfl) (by kernel_rfl) (by kernel_rfl)
      (OpenSpec.preRow_of_cond 8 hx (by kernel_rfl) (fun k hk => by cases hk) (by kernel_rfl) (door_met_crossingLeast os _))) ?_
  intro W base args ds gs before hval hW _ hcond hsz hL hS _
  exact contract H enc W base args ds gs before hval hW hsz hL hS
theorem said : Rows.CrossingLeastSaid :=
  OpenClaim.holds_of_cond 3 Tryd.f3 rfl rfl rfl rfl rfl rfl rfl ⟨rfl, rfl, rfl, rfl, rfl⟩ rfl rfl rfl rfl rfl (by kernel_rfl) Tryd.func3 (by kernel_rfl)
    (of_decide_eq_true (by kernel_rfl)) (by unfold Func.isWrapper; first | (rw [if_pos (by decide +kernel)]; kernel_rfl) | (rw [if_neg (by decide +kernel)]; exact ⟨rfl, rfl⟩))
    (fun os started H enc _ F => by rw [OpenClaim.pre_eq_preRow]; exact lifted os started H enc F)
theorem plain (f : FuncId) (fn : Func) (hf : Tryd.pinned.checked.prog.funcNamed "prow/prowlaw09.CrossingLeast" = some f) (hfn : Tryd.pinned.checked.prog.funcs[f]? = some fn) :
    false = Tryd.pinned.checked.prog.looks [] ∧ ∀ (j : Nat) t, fn.params[j]? = some t → Tryd.pinned.checked.prog.wantsStandIn t = false := by
  obtain rfl : f = 3 := Option.some.inj ((show Tryd.prog.funcNamed "prow/prowlaw09.CrossingLeast" = some 3 by kernel_rfl).symm.trans hf) |>.symm
  obtain rfl : fn = Tryd.f3 := (Option.some.inj (Tryd.func3.symm.trans hfn)).symm
  refine ⟨by kernel_rfl, fun j t ht => ?_⟩
  rw [Tryd.params3] at ht
  have hm : t ∈ ([37, 38] : List TypeId) := by simpa using Array.mem_of_getElem? ht
  have hall : (([37, 38] : List TypeId).all fun u => !Tryd.prog.wantsStandIn u) = true := by kernel_rfl
  exact (show Tryd.prog.wantsStandIn t = false by simpa using List.all_eq_true.1 hall t hm)
theorem card : Rows.CrossingLeastCardSaid :=
  Claim7.holds_tied_plain_at .later [] _ _ _ _ said (fun _ h => by cases h) (by kernel_rfl) (fun _ h => by cases h) crossingLeast_row_tie rfl ⟨rfl, rfl⟩ (by kernel_rfl) rfl plain (by kernel_rfl)
end CrossingLeast
end Go.Proofs.YtpfglknbkpcfnaaDoor.X
theorem Go.Proofs.YtpfglknbkpcfnaaDoor.crossingLeast_holds : Go.Proofs.YtpfglknbkpcfnaaDoor.Rows.CrossingLeastCardSaid := Go.Proofs.YtpfglknbkpcfnaaDoor.X.CrossingLeast.card
