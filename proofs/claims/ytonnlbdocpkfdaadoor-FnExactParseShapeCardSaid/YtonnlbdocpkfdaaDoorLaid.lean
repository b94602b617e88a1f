/- The variable internal/bytealg.MaxLen holds some int: what is asked of a world, and that it stays so where only later memory changes. -/
import Derived.Test.YtonnlbdocpkfdaaDoorProg
import Derived.Test.YtonnlbdocpkfdaaDoorWWords
import Derived.Below

namespace Go.Proofs.YtonnlbdocpkfdaaDoorLaid
open Go.RowKit Go.Proofs.YtonnlbdocpkfdaaDoorW.PrintWords
/-- The variable holds some int. -/
def LaidG (w : World) : Prop := ∃ m : Int, w.cell? ⟨0, 0, none⟩ = some (.int .i64 m)
theorem LaidG.below {w W : World} (h : LaidG w) (hb : Below w.heap.size w W) : LaidG W := by
  obtain ⟨m, hc⟩ := h
  have hl : (⟨0, 0, none⟩ : Addr).block < w.heap.size := by
    apply Classical.byContradiction
    intro hge
    have hn : w.heap[0]? = none := Array.getElem?_eq_none (by simpa using hge)
    simp [World.cell?, hn] at hc
  exact ⟨m, (Below.cell hb (p := ⟨0, 0, none⟩) hl).trans hc⟩
theorem LaidG.drawn {w W : World} (h : LaidG w) (hd : Drawn0 w W) : LaidG W := h.below hd.below
end Go.Proofs.YtonnlbdocpkfdaaDoorLaid
