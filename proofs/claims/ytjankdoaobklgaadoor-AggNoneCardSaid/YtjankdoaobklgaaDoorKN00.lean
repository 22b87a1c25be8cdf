import Derived.Test.YtjankdoaobklgaaDoorProg
import Derived.Below
import Derived.Lib.LaidTab
import Derived.Shelf.Strconv.Itoa4
section
namespace Go.Proofs.YtjankdoaobklgaaDoor.Q
open Go.RowKit
def Glob (w : World) : Prop := Lib.TabIs Tryd.prog w "internal/strconv.uint64pow10" .u64 Lib.pow10Tab
theorem Glob.below {w w' : World} (h : Below w.heap.size w w') (g : Glob w) : Glob w' := by
  have hg : (Tryd.prog).globalNamed "internal/strconv.uint64pow10" = some 1 := by kernel_rfl
  unfold Glob Lib.TabIs World.var? at g ⊢
  rw [hg] at g ⊢
  simp only [Option.bind_some] at g ⊢
  have hlt : 1 < w.heap.size := by
    rcases Nat.lt_or_ge 1 w.heap.size with h' | h'
    · exact h'
    · rw [Array.getElem?_eq_none h'] at g; cases g
  rw [h.block _ hlt]
  exact g
end Go.Proofs.YtjankdoaobklgaaDoor.Q
end
