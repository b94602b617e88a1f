/- The table of math/bits.TrailingZeros64 in its variable: what is asked of a world, and that it stays so where only later memory changes. -/
import Derived.Test.YtmjfigeikiickaaDoorProg
import Derived.Test.YtmjfigeikiickaaDoorTWords
import Derived.Shelf.Spec.TrailingZeros
import Derived.Below
import Derived.Lib.AppendIntMem
import Derived.Lib.ItoaNum

namespace Go.Proofs.YtmjfigeikiickaaDoorLaid
open Go.RowKit Go.Proofs.YtmjfigeikiickaaDoorW.PrintWords
/-- The variable math/bits.deBruijn64tab holds its table. -/
def LaidT (w : World) : Prop := TabAt 1 Lib.deBruijn64tab w
theorem LaidT.below {w W : World} (h : LaidT w) (hb : Below w.heap.size w W) : LaidT W := by
  intro j hj
  have hc := h j hj
  have hl : (⟨1, j, none⟩ : Addr).block < w.heap.size := by
    apply Classical.byContradiction
    intro hge
    have hn : w.heap[1]? = none := Array.getElem?_eq_none (by simpa using hge)
    simp [World.cell?, hn] at hc
  exact (Below.cell hb (p := ⟨1, j, none⟩) hl).trans hc
/-- Both listed tables: that one, and internal/strconv.uint64pow10. -/
def LaidG (w : World) : Prop := LaidT w ∧ Lib.TabIs Tryd.prog w "internal/strconv.uint64pow10" .u64 Lib.pow10Tab
theorem LaidG.below {w W : World} (h : LaidG w) (hb : Below w.heap.size w W) : LaidG W := ⟨h.1.below hb, Lib.tabBelow_of_tabIs h.2 W hb⟩
theorem LaidG.drawn {w W : World} (h : LaidG w) (hd : Drawn0 w W) : LaidG W := h.below hd.below
end Go.Proofs.YtmjfigeikiickaaDoorLaid
