import Derived.Test.YtjankdoaobklgaaDoorCards
import Derived.Test.YtjankdoaobklgaaDoorTie
import Derived.Test.YtjankdoaobklgaaDoorKN11
import Derived.SevenTiedAt
section
namespace Go.Proofs.YtjankdoaobklgaaDoor.Q
open Go
theorem aggNone_card_holds : Rows.AggNoneCardSaid :=
  Claim7.holds_tied_plain_at .later [] [.data, .data, .data, .data, .pinned] true (true, "e889e471d7fd2e972e7785e46fe9aa3794c99c7f8f11a940b41b8be000c84eae") false
    row_holds (fun _ h => by cases h) (by kernel_rfl) (fun _ h => by cases h) aggNone_row_tie rfl ⟨rfl, rfl⟩ (by kernel_rfl) rfl
    (fun f fn hf hfn => by
      obtain rfl : f = 3 := Option.some.inj ((show Tryd.prog.funcNamed "cardindex/cardindexlaw08.AggNone" = some 3 by kernel_rfl).symm.trans hf) |>.symm
      obtain rfl : fn = Tryd.f3 := (Option.some.inj (Tryd.func3.symm.trans hfn)).symm
      exact ⟨by kernel_rfl, fun j t ht => by
        rw [Tryd.params3] at ht
        have h3 : t = 24 := by
          rcases j with _ | j
          · simpa using ht.symm
          · simp at ht
        subst h3
        exact (show Tryd.prog.wantsStandIn 24 = false by kernel_rfl)⟩)
    (by kernel_rfl)
#print axioms aggNone_card_holds
end Go.Proofs.YtjankdoaobklgaaDoor.Q
end
