import Derived.Test.YtjankdoaobklgaaDoorKN01
import Derived.Test.YtjankdoaobklgaaDoorKN02
import Derived.Shelf.Strings.SlTrimAscii
section
namespace Go.Proofs.YtjankdoaobklgaaDoor.Q
open Go.RowKit Go.Proofs.YtjankdoaobklgaaDoorW.PrintWords Go.Shelf

/-- a cutset of ASCII bytes -/
def asciiB (l : List UInt8) : Bool := l.all fun b => decide (b.toNat < 128)
def strings_TrimLeft.f (a0 a1 : ByteArray) : Option ByteArray := if a1.size < 4294967281 ∧ asciiB a1.data.toList = true then some ⟨(Lib.trimLeftS a0.data.toList a1.data.toList).toArray⟩ else none
theorem strings_TrimLeft.calls (a0 a1 : ByteArray) (r : ByteArray) (w : World) (h : strings_TrimLeft.f a0 a1 = some r) :
    Calls Tryd.prog 39 #[.string a0, .string a1] w fun e w' => e = .returned (.string r) ∧ Below w.heap.size w w' := by
  unfold strings_TrimLeft.f at h
  split at h
  · rename_i hc
    obtain rfl := Option.some.inj h
    exact Any.strings_TrimLeft_laid Tryd.trimLays (by kernel_rfl) a0 a1 w hc.1 (fun j b hj => by
      have hm := List.mem_of_getElem? hj
      have := List.all_eq_true.1 hc.2 b hm
      simpa using this)
  · cases h
end Go.Proofs.YtjankdoaobklgaaDoor.Q
end
