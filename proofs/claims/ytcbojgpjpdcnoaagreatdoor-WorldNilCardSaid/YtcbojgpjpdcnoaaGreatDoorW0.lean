import Derived.Test.YtcbojgpjpdcnoaaGreatDoorProg
import Derived.WalkKit
import Derived.WalkSpells
import Derived.WalkLawsBesides
import Derived.Lib.MakeNoZero
import Derived.Laws.Externs
import Derived.Shelf.RegionOpenPlain
import Derived.Test.YtcbojgpjpdcnoaaGreatDoorAxD
namespace Go.Proofs.YtcbojgpjpdcnoaaGreatDoor
open Go.RowKit
set_option maxHeartbeats 2000000 in
set_option maxRecDepth 1000000 in
theorem grow_walk : Ax.GrowWalk Tryz.prog 388 5 := by
  intro b n w C e fz hbk h1 hfz hn
  obtain ⟨cs, hrun, hle, hone⟩ := Ax.makeNoZero_run (P := Tryz.prog) w.drew #[3] Tryz.underlying311 hn
  have hw : IntKind.i64.wrap (IntKind.i64.wrap 0 + (n : Int)) = n := by
    rw [IntKind.wrap_i64, IntKind.wrap_i64]
    omega
  have hcall : (callFunc 430 #[.int .i64 (IntKind.i64.wrap (IntKind.i64.wrap 0 + (n : Int)))]).run Tryz.prog w.drew = .ok (.value (.slice (some ⟨w.drew.heap.size, 0, none⟩) n cs.size)) (w.drew.drew.drew.alloc (.cells cs 5)) := by
    rw [hw, run_callFunc_extern Tryz.func430 (by kernel_rfl) (by kernel_rfl) (by kernel_rfl) (e := Extern.BytealgMakeNoZero.makeNoZero #[3] #[311]) (by kernel_rfl), hrun]
    rfl
  have c1 : w.drew.cell? ⟨b, 1, none⟩ = some (.slice none 0 0) := (Ax.cell_of (w := w) hbk 1).trans h1
  have c2 : (w.alloc (.cells cs 5)).cell? ⟨b, 1, none⟩ = some (.slice none 0 0) := by
    have hlt : b < w.heap.size := (Array.getElem?_eq_some_iff.1 hbk).1
    have : (w.alloc (.cells cs 5)).heap[b]? = some (.cells C e fz) := by rw [World.alloc, Array.getElem?_push_lt hlt, ← hbk, Array.getElem?_eq_getElem hlt]
    exact (Ax.cell_of this 1).trans h1
  have f2 : (w.alloc (.cells cs 5)).frozen? ⟨b, 1, none⟩ = false := by
    have hlt : b < w.heap.size := (Array.getElem?_eq_some_iff.1 hbk).1
    have : (w.alloc (.cells cs 5)).heap[b]? = some (.cells C e fz) := by rw [World.alloc, Array.getElem?_push_lt hlt, ← hbk, Array.getElem?_eq_getElem hlt]
    exact (Ax.frozen_of this 1).trans hfz
  have hcopy : ∀ W : World, (Builtin.copy_ #[311, 311] 3 #[.slice (some ⟨w.heap.size, 0, none⟩) 0 cs.size, .slice none 0 0]).run Tryz.prog W = .ok (goInt 0) W :=
    fun W => run_copy_none W 311 311 3 5 _ _ 0 cs.size 0 0 Tryz.underlying311 (by kernel_rfl) rfl
  clear hw
  go_enter Tryz.func388, Tryz.ntmps388
  go_wp2
  go_region
  all_goals (go_wp2; go_end0; exact ⟨rfl, cs, hone, rfl⟩)
end Go.Proofs.YtcbojgpjpdcnoaaGreatDoor
