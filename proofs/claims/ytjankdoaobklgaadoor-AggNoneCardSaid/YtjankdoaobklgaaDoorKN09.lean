import Derived.Test.YtjankdoaobklgaaDoorKN01
import Derived.Test.YtjankdoaobklgaaDoorKN08
import Derived.Test.YtjankdoaobklgaaDoorKN09a
section
namespace Go.Proofs.YtjankdoaobklgaaDoor.Q
open Go.RowKit Go.Proofs.YtjankdoaobklgaaDoorW.PrintWords Go.Proofs.YtjankdoaobklgaaDoorW.PrintLast Go.Proofs.YtjankdoaobklgaaDoorW.PrintMore Kd
open S_cardindexlaw08_awake
attribute [local go_sem] max2_int min2_int max_two min_two max_three min_three max_four min_four   -- for this text's walks alone
set_option linter.unusedVariables false
set_option linter.unusedSimpArgs false

/-! ### cardindexlaw08_awake: function 12 -/
set_option maxHeartbeats 8000000 in
set_option maxRecDepth 100000 in
theorem cardindexlaw08_awake.calls  (r : Bool) (w : World) (hT : r = true) (hG : Glob w) (h : cardindexlaw08_awake.f  = some r) :
    Calls Tryd.prog 12 #[] w fun e w' => e = .returned (.bool r) ∧ Below w.heap.size w w' := by
  have hu24 := Tryd.underlying24
  have HT := am hT
  clear hT
  have HG := am hG
  clear hG
  have HB := am (Below.refl w.heap.size w)
  have H : ((q3 9223372036854775803).bind fun bt160 => ((q3 9223372036854775807).bind fun bt163 => ((q3 1).bind fun bt166 => ((q3 (-5)).bind fun bt169 => ((q0 bt160.1 bt160.2.1 bt160.2.2 (⟨#[115, 117, 109]⟩ : ByteArray) false (([(⟨bt163.1, bt163.2.1, bt163.2.2⟩ : S24), (⟨bt166.1, bt166.2.1, bt166.2.2⟩ : S24), (⟨bt169.1, bt169.2.1, bt169.2.2⟩ : S24)] : List (S24)))).bind fun t175 => (if t175 = true then ((q3 9223372036854775807).bind fun bt176 => ((q3 1).bind fun bt179 => ((q2 20 (⟨#[115, 117, 109]⟩ : ByteArray) (([(⟨bt176.1, bt176.2.1, bt176.2.2⟩ : S24), (⟨bt179.1, bt179.2.1, bt179.2.2⟩ : S24)] : List (S24)))).bind fun t185 => (if t185 = true then ((q0 0 0 (⟨#[]⟩ : ByteArray) (⟨#[115, 117, 109]⟩ : ByteArray) false ([] : List (S24))).bind fun t186 => (if t186 = true then ((q3 0).bind fun bt187 => ((q0 bt187.1 bt187.2.1 bt187.2.2 (⟨#[116, 111, 116, 97, 108]⟩ : ByteArray) false ([] : List (S24))).bind fun t190 => (if t190 = true then ((q3 2).bind fun bt191 => ((q3 1).bind fun bt194 => ((q3 1).bind fun bt197 => ((q0 bt191.1 bt191.2.1 bt191.2.2 (⟨#[99, 111, 117, 110, 116]⟩ : ByteArray) false (([(⟨bt194.1, bt194.2.1, bt194.2.2⟩ : S24), (⟨0, 0, (⟨#[]⟩ : ByteArray)⟩ : S24), (⟨bt197.1, bt197.2.1, bt197.2.2⟩ : S24)] : List (S24)))).bind fun t203 => (if t203 = true then ((q3 1).bind fun bt204 => ((q3 1).bind fun bt207 => ((q3 1).bind fun bt210 => ((q0 bt204.1 bt204.2.1 bt204.2.2 (⟨#[99, 111, 117, 110, 116]⟩ : ByteArray) true (([(⟨bt207.1, bt207.2.1, bt207.2.2⟩ : S24), (⟨0, 0, (⟨#[]⟩ : ByteArray)⟩ : S24), (⟨bt210.1, bt210.2.1, bt210.2.2⟩ : S24)] : List (S24)))).bind fun t216 => (if t216 = true then ((q3 3).bind fun bt217 => ((q3 1).bind fun bt220 => ((q3 1).bind fun bt223 => ((q0 bt217.1 bt217.2.1 bt217.2.2 (⟨#[99, 111, 117, 110, 116, 42]⟩ : ByteArray) false (([(⟨bt220.1, bt220.2.1, bt220.2.2⟩ : S24), (⟨0, 0, (⟨#[]⟩ : ByteArray)⟩ : S24), (⟨bt223.1, bt223.2.1, bt223.2.2⟩ : S24)] : List (S24)))).bind fun t229 => (if t229 = true then ((q3 5).bind fun bt230 => ((q1 (⟨#[97]⟩ : ByteArray)).bind fun bt233 => ((q3 5).bind fun bt236 => ((q0 bt230.1 bt230.2.1 bt230.2.2 (⟨#[109, 105, 110]⟩ : ByteArray) false (([(⟨bt233.1, bt233.2.1, bt233.2.2⟩ : S24), (⟨bt236.1, bt236.2.1, bt236.2.2⟩ : S24), (⟨0, 0, (⟨#[]⟩ : ByteArray)⟩ : S24)] : List (S24)))).bind fun t242 => (if t242 = true then ((q1 (⟨#[97]⟩ : ByteArray)).bind fun bt243 => ((q1 (⟨#[97]⟩ : ByteArray)).bind fun bt246 => ((q3 5).bind fun bt249 => ((q0 bt243.1 bt243.2.1 bt243.2.2 (⟨#[109, 97, 120]⟩ : ByteArray) false (([(⟨bt246.1, bt246.2.1, bt246.2.2⟩ : S24), (⟨bt249.1, bt249.2.1, bt249.2.2⟩ : S24), (⟨0, 0, (⟨#[]⟩ : ByteArray)⟩ : S24)] : List (S24)))).bind fun t255 => (if t255 = true then ((q1 (⟨#[49, 44, 98]⟩ : ByteArray)).bind fun bt256 => ((q1 (⟨#[98]⟩ : ByteArray)).bind fun bt259 => ((q3 1).bind fun bt262 => ((q0 bt256.1 bt256.2.1 bt256.2.2 (⟨#[103, 114, 111, 117, 112, 95, 99, 111, 110, 99, 97, 116]⟩ : ByteArray) false (([(⟨bt259.1, bt259.2.1, bt259.2.2⟩ : S24), (⟨0, 0, (⟨#[]⟩ : ByteArray)⟩ : S24), (⟨bt262.1, bt262.2.1, bt262.2.2⟩ : S24)] : List (S24)))).bind fun t268 => (some t268))))) else (some false)))))) else (some false)))))) else (some false)))))) else (some false)))))) else (some false)))))) else (some false)))) else (some false))) else (some false))))) else (some false))))))) = some r := h
  clear h
  replace H := Option.bind_eq_some_iff.mp H
  obtain ⟨⟨t160, t161, t162⟩, A10, H⟩ := H
  replace H : ((q3 9223372036854775807).bind fun bt163 => ((q3 1).bind fun bt166 => ((q3 (-5)).bind fun bt169 => ((q0 t160 t161 t162 (⟨#[115, 117, 109]⟩ : ByteArray) false (([(⟨bt163.1, bt163.2.1, bt163.2.2⟩ : S24), (⟨bt166.1, bt166.2.1, bt166.2.2⟩ : S24), (⟨bt169.1, bt169.2.1, bt169.2.2⟩ : S24)] : List (S24)))).bind fun t175 => (if t175 = true then ((q3 9223372036854775807).bind fun bt176 => ((q3 1).bind fun bt179 => ((q2 20 (⟨#[115, 117, 109]⟩ : ByteArray) (([(⟨bt176.1, bt176.2.1, bt176.2.2⟩ : S24), (⟨bt179.1, bt179.2.1, bt179.2.2⟩ : S24)] : List (S24)))).bind fun t185 => (if t185 = true then ((q0 0 0 (⟨#[]⟩ : ByteArray) (⟨#[115, 117, 109]⟩ : ByteArray) false ([] : List (S24))).bind fun t186 => (if t186 = true then ((q3 0).bind fun bt187 => ((q0 bt187.1 bt187.2.1 bt187.2.2 (⟨#[116, 111, 116, 97, 108]⟩ : ByteArray) false ([] : List (S24))).bind fun t190 => (if t190 = true then ((q3 2).bind fun bt191 => ((q3 1).bind fun bt194 => ((q3 1).bind fun bt197 => ((q0 bt191.1 bt191.2.1 bt191.2.2 (⟨#[99, 111, 117, 110, 116]⟩ : ByteArray) false (([(⟨bt194.1, bt194.2.1, bt194.2.2⟩ : S24), (⟨0, 0, (⟨#[]⟩ : ByteArray)⟩ : S24), (⟨bt197.1, bt197.2.1, bt197.2.2⟩ : S24)] : List (S24)))).bind fun t203 => (if t203 = true then ((q3 1).bind fun bt204 => ((q3 1).bind fun bt207 => ((q3 1).bind fun bt210 => ((q0 bt204.1 bt204.2.1 bt204.2.2 (⟨#[99, 111, 117, 110, 116]⟩ : ByteArray) true (([(⟨bt207.1, bt207.2.1, bt207.2.2⟩ : S24), (⟨0, 0, (⟨#[]⟩ : ByteArray)⟩ : S24), (⟨bt210.1, bt210.2.1, bt210.2.2⟩ : S24)] : List (S24)))).bind fun t216 => (if t216 = true then ((q3 3).bind fun bt217 => ((q3 1).bind fun bt220 => ((q3 1).bind fun bt223 => ((q0 bt217.1 bt217.2.1 bt217.2.2 (⟨#[99, 111, 117, 110, 116, 42]⟩ : ByteArray) false (([(⟨bt220.1, bt220.2.1, bt220.2.2⟩ : S24), (⟨0, 0, (⟨#[]⟩ : ByteArray)⟩ : S24), (⟨bt223.1, bt223.2.1, bt223.2.2⟩ : S24)] : List (S24)))).bind fun t229 => (if t229 = true then ((q3 5).bind fun bt230 => ((q1 (⟨#[97]⟩ : ByteArray)).bind fun bt233 => ((q3 5).bind fun bt236 => ((q0 bt230.1 bt230.2.1 bt230.2.2 (⟨#[109, 105, 110]⟩ : ByteArray) false (([(⟨bt233.1, bt233.2.1, bt233.2.2⟩ : S24), (⟨bt236.1, bt236.2.1, bt236.2.2⟩ : S24), (⟨0, 0, (⟨#[]⟩ : ByteArray)⟩ : S24)] : List (S24)))).bind fun t242 => (if t242 = true then ((q1 (⟨#[97]⟩ : ByteArray)).bind fun bt243 => ((q1 (⟨#[97]⟩ : ByteArray)).bind fun bt246 => ((q3 5).bind fun bt249 => ((q0 bt243.1 bt243.2.1 bt243.2.2 (⟨#[109, 97, 120]⟩ : ByteArray) false (([(⟨bt246.1, bt246.2.1, bt246.2.2⟩ : S24), (⟨bt249.1, bt249.2.1, bt249.2.2⟩ : S24), (⟨0, 0, (⟨#[]⟩ : ByteArray)⟩ : S24)] : List (S24)))).bind fun t255 => (if t255 = true then ((q1 (⟨#[49, 44, 98]⟩ : ByteArray)).bind fun bt256 => ((q1 (⟨#[98]⟩ : ByteArray)).bind fun bt259 => ((q3 1).bind fun bt262 => ((q0 bt256.1 bt256.2.1 bt256.2.2 (⟨#[103, 114, 111, 117, 112, 95, 99, 111, 110, 99, 97, 116]⟩ : ByteArray) false (([(⟨bt259.1, bt259.2.1, bt259.2.2⟩ : S24), (⟨0, 0, (⟨#[]⟩ : ByteArray)⟩ : S24), (⟨bt262.1, bt262.2.1, bt262.2.2⟩ : S24)] : List (S24)))).bind fun t268 => (some t268))))) else (some false)))))) else (some false)))))) else (some false)))))) else (some false)))))) else (some false)))))) else (some false)))) else (some false))) else (some false))))) else (some false)))))) = some r := H
  have A1 := am A10
  clear A10
  replace H := Option.bind_eq_some_iff.mp H
  obtain ⟨⟨t163, t164, t165⟩, A20, H⟩ := H
  replace H : ((q3 1).bind fun bt166 => ((q3 (-5)).bind fun bt169 => ((q0 t160 t161 t162 (⟨#[115, 117, 109]⟩ : ByteArray) false (([(⟨t163, t164, t165⟩ : S24), (⟨bt166.1, bt166.2.1, bt166.2.2⟩ : S24), (⟨bt169.1, bt169.2.1, bt169.2.2⟩ : S24)] : List (S24)))).bind fun t175 => (if t175 = true then ((q3 9223372036854775807).bind fun bt176 => ((q3 1).bind fun bt179 => ((q2 20 (⟨#[115, 117, 109]⟩ : ByteArray) (([(⟨bt176.1, bt176.2.1, bt176.2.2⟩ : S24), (⟨bt179.1, bt179.2.1, bt179.2.2⟩ : S24)] : List (S24)))).bind fun t185 => (if t185 = true then ((q0 0 0 (⟨#[]⟩ : ByteArray) (⟨#[115, 117, 109]⟩ : ByteArray) false ([] : List (S24))).bind fun t186 => (if t186 = true then ((q3 0).bind fun bt187 => ((q0 bt187.1 bt187.2.1 bt187.2.2 (⟨#[116, 111, 116, 97, 108]⟩ : ByteArray) false ([] : List (S24))).bind fun t190 => (if t190 = true then ((q3 2).bind fun bt191 => ((q3 1).bind fun bt194 => ((q3 1).bind fun bt197 => ((q0 bt191.1 bt191.2.1 bt191.2.2 (⟨#[99, 111, 117, 110, 116]⟩ : ByteArray) false (([(⟨bt194.1, bt194.2.1, bt194.2.2⟩ : S24), (⟨0, 0, (⟨#[]⟩ : ByteArray)⟩ : S24), (⟨bt197.1, bt197.2.1, bt197.2.2⟩ : S24)] : List (S24)))).bind fun t203 => (if t203 = true then ((q3 1).bind fun bt204 => ((q3 1).bind fun bt207 => ((q3 1).bind fun bt210 => ((q0 bt204.1 bt204.2.1 bt204.2.2 (⟨#[99, 111, 117, 110, 116]⟩ : ByteArray) true (([(⟨bt207.1, bt207.2.1, bt207.2.2⟩ : S24), (⟨0, 0, (⟨#[]⟩ : ByteArray)⟩ : S24), (⟨bt210.1, bt210.2.1, bt210.2.2⟩ : S24)] : List (S24)))).bind fun t216 => (if t216 = true then ((q3 3).bind fun bt217 => ((q3 1).bind fun bt220 => ((q3 1).bind fun bt223 => ((q0 bt217.1 bt217.2.1 bt217.2.2 (⟨#[99, 111, 117, 110, 116, 42]⟩ : ByteArray) false (([(⟨bt220.1, bt220.2.1, bt220.2.2⟩ : S24), (⟨0, 0, (⟨#[]⟩ : ByteArray)⟩ : S24), (⟨bt223.1, bt223.2.1, bt223.2.2⟩ : S24)] : List (S24)))).bind fun t229 => (if t229 = true then ((q3 5).bind fun bt230 => ((q1 (⟨#[97]⟩ : ByteArray)).bind fun bt233 => ((q3 5).bind fun bt236 => ((q0 bt230.1 bt230.2.1 bt230.2.2 (⟨#[109, 105, 110]⟩ : ByteArray) false (([(⟨bt233.1, bt233.2.1, bt233.2.2⟩ : S24), (⟨bt236.1, bt236.2.1, bt236.2.2⟩ : S24), (⟨0, 0, (⟨#[]⟩ : ByteArray)⟩ : S24)] : List (S24)))).bind fun t242 => (if t242 = true then ((q1 (⟨#[97]⟩ : ByteArray)).bind fun bt243 => ((q1 (⟨#[97]⟩ : ByteArray)).bind fun bt246 => ((q3 5).bind fun bt249 => ((q0 bt243.1 bt243.2.1 bt243.2.2 (⟨#[109, 97, 120]⟩ : ByteArray) false (([(⟨bt246.1, bt246.2.1, bt246.2.2⟩ : S24), (⟨bt249.1, bt249.2.1, bt249.2.2⟩ : S24), (⟨0, 0, (⟨#[]⟩ : ByteArray)⟩ : S24)] : List (S24)))).bind fun t255 => (if t255 = true then ((q1 (⟨#[49, 44, 98]⟩ : ByteArray)).bind fun bt256 => ((q1 (⟨#[98]⟩ : ByteArray)).bind fun bt259 => ((q3 1).bind fun bt262 => ((q0 bt256.1 bt256.2.1 bt256.2.2 (⟨#[103, 114, 111, 117, 112, 95, 99, 111, 110, 99, 97, 116]⟩ : ByteArray) false (([(⟨bt259.1, bt259.2.1, bt259.2.2⟩ : S24), (⟨0, 0, (⟨#[]⟩ : ByteArray)⟩ : S24), (⟨bt262.1, bt262.2.1, bt262.2.2⟩ : S24)] : List (S24)))).bind fun t268 => (some t268))))) else (some false)))))) else (some false)))))) else (some false)))))) else (some false)))))) else (some false)))))) else (some false)))) else (some false))) else (some false))))) else (some false))))) = some r := H
  have A2 := am A20
  clear A20
  replace H := Option.bind_eq_some_iff.mp H
  obtain ⟨⟨t166, t167, t168⟩, A30, H⟩ := H
  replace H : ((q3 (-5)).bind fun bt169 => ((q0 t160 t161 t162 (⟨#[115, 117, 109]⟩ : ByteArray) false (([(⟨t163, t164, t165⟩ : S24), (⟨t166, t167, t168⟩ : S24), (⟨bt169.1, bt169.2.1, bt169.2.2⟩ : S24)] : List (S24)))).bind fun t175 => (if t175 = true then ((q3 9223372036854775807).bind fun bt176 => ((q3 1).bind fun bt179 => ((q2 20 (⟨#[115, 117, 109]⟩ : ByteArray) (([(⟨bt176.1, bt176.2.1, bt176.2.2⟩ : S24), (⟨bt179.1, bt179.2.1, bt179.2.2⟩ : S24)] : List (S24)))).bind fun t185 => (if t185 = true then ((q0 0 0 (⟨#[]⟩ : ByteArray) (⟨#[115, 117, 109]⟩ : ByteArray) false ([] : List (S24))).bind fun t186 => (if t186 = true then ((q3 0).bind fun bt187 => ((q0 bt187.1 bt187.2.1 bt187.2.2 (⟨#[116, 111, 116, 97, 108]⟩ : ByteArray) false ([] : List (S24))).bind fun t190 => (if t190 = true then ((q3 2).bind fun bt191 => ((q3 1).bind fun bt194 => ((q3 1).bind fun bt197 => ((q0 bt191.1 bt191.2.1 bt191.2.2 (⟨#[99, 111, 117, 110, 116]⟩ : ByteArray) false (([(⟨bt194.1, bt194.2.1, bt194.2.2⟩ : S24), (⟨0, 0, (⟨#[]⟩ : ByteArray)⟩ : S24), (⟨bt197.1, bt197.2.1, bt197.2.2⟩ : S24)] : List (S24)))).bind fun t203 => (if t203 = true then ((q3 1).bind fun bt204 => ((q3 1).bind fun bt207 => ((q3 1).bind fun bt210 => ((q0 bt204.1 bt204.2.1 bt204.2.2 (⟨#[99, 111, 117, 110, 116]⟩ : ByteArray) true (([(⟨bt207.1, bt207.2.1, bt207.2.2⟩ : S24), (⟨0, 0, (⟨#[]⟩ : ByteArray)⟩ : S24), (⟨bt210.1, bt210.2.1, bt210.2.2⟩ : S24)] : List (S24)))).bind fun t216 => (if t216 = true then ((q3 3).bind fun bt217 => ((q3 1).bind fun bt220 => ((q3 1).bind fun bt223 => ((q0 bt217.1 bt217.2.1 bt217.2.2 (⟨#[99, 111, 117, 110, 116, 42]⟩ : ByteArray) false (([(⟨bt220.1, bt220.2.1, bt220.2.2⟩ : S24), (⟨0, 0, (⟨#[]⟩ : ByteArray)⟩ : S24), (⟨bt223.1, bt223.2.1, bt223.2.2⟩ : S24)] : List (S24)))).bind fun t229 => (if t229 = true then ((q3 5).bind fun bt230 => ((q1 (⟨#[97]⟩ : ByteArray)).bind fun bt233 => ((q3 5).bind fun bt236 => ((q0 bt230.1 bt230.2.1 bt230.2.2 (⟨#[109, 105, 110]⟩ : ByteArray) false (([(⟨bt233.1, bt233.2.1, bt233.2.2⟩ : S24), (⟨bt236.1, bt236.2.1, bt236.2.2⟩ : S24), (⟨0, 0, (⟨#[]⟩ : ByteArray)⟩ : S24)] : List (S24)))).bind fun t242 => (if t242 = true then ((q1 (⟨#[97]⟩ : ByteArray)).bind fun bt243 => ((q1 (⟨#[97]⟩ : ByteArray)).bind fun bt246 => ((q3 5).bind fun bt249 => ((q0 bt243.1 bt243.2.1 bt243.2.2 (⟨#[109, 97, 120]⟩ : ByteArray) false (([(⟨bt246.1, bt246.2.1, bt246.2.2⟩ : S24), (⟨bt249.1, bt249.2.1, bt249.2.2⟩ : S24), (⟨0, 0, (⟨#[]⟩ : ByteArray)⟩ : S24)] : List (S24)))).bind fun t255 => (if t255 = true then ((q1 (⟨#[49, 44, 98]⟩ : ByteArray)).bind fun bt256 => ((q1 (⟨#[98]⟩ : ByteArray)).bind fun bt259 => ((q3 1).bind fun bt262 => ((q0 bt256.1 bt256.2.1 bt256.2.2 (⟨#[103, 114, 111, 117, 112, 95, 99, 111, 110, 99, 97, 116]⟩ : ByteArray) false (([(⟨bt259.1, bt259.2.1, bt259.2.2⟩ : S24), (⟨0, 0, (⟨#[]⟩ : ByteArray)⟩ : S24), (⟨bt262.1, bt262.2.1, bt262.2.2⟩ : S24)] : List (S24)))).bind fun t268 => (some t268))))) else (some false)))))) else (some false)))))) else (some false)))))) else (some false)))))) else (some false)))))) else (some false)))) else (some false))) else (some false))))) else (some false)))) = some r := H
  have A3 := am A30
  clear A30
  replace H := Option.bind_eq_some_iff.mp H
  obtain ⟨⟨t169, t170, t171⟩, A40, H⟩ := H
  replace H : ((q0 t160 t161 t162 (⟨#[115, 117, 109]⟩ : ByteArray) false (([(⟨t163, t164, t165⟩ : S24), (⟨t166, t167, t168⟩ : S24), (⟨t169, t170, t171⟩ : S24)] : List (S24)))).bind fun t175 => (if t175 = true then ((q3 9223372036854775807).bind fun bt176 => ((q3 1).bind fun bt179 => ((q2 20 (⟨#[115, 117, 109]⟩ : ByteArray) (([(⟨bt176.1, bt176.2.1, bt176.2.2⟩ : S24), (⟨bt179.1, bt179.2.1, bt179.2.2⟩ : S24)] : List (S24)))).bind fun t185 => (if t185 = true then ((q0 0 0 (⟨#[]⟩ : ByteArray) (⟨#[115, 117, 109]⟩ : ByteArray) false ([] : List (S24))).bind fun t186 => (if t186 = true then ((q3 0).bind fun bt187 => ((q0 bt187.1 bt187.2.1 bt187.2.2 (⟨#[116, 111, 116, 97, 108]⟩ : ByteArray) false ([] : List (S24))).bind fun t190 => (if t190 = true then ((q3 2).bind fun bt191 => ((q3 1).bind fun bt194 => ((q3 1).bind fun bt197 => ((q0 bt191.1 bt191.2.1 bt191.2.2 (⟨#[99, 111, 117, 110, 116]⟩ : ByteArray) false (([(⟨bt194.1, bt194.2.1, bt194.2.2⟩ : S24), (⟨0, 0, (⟨#[]⟩ : ByteArray)⟩ : S24), (⟨bt197.1, bt197.2.1, bt197.2.2⟩ : S24)] : List (S24)))).bind fun t203 => (if t203 = true then ((q3 1).bind fun bt204 => ((q3 1).bind fun bt207 => ((q3 1).bind fun bt210 => ((q0 bt204.1 bt204.2.1 bt204.2.2 (⟨#[99, 111, 117, 110, 116]⟩ : ByteArray) true (([(⟨bt207.1, bt207.2.1, bt207.2.2⟩ : S24), (⟨0, 0, (⟨#[]⟩ : ByteArray)⟩ : S24), (⟨bt210.1, bt210.2.1, bt210.2.2⟩ : S24)] : List (S24)))).bind fun t216 => (if t216 = true then ((q3 3).bind fun bt217 => ((q3 1).bind fun bt220 => ((q3 1).bind fun bt223 => ((q0 bt217.1 bt217.2.1 bt217.2.2 (⟨#[99, 111, 117, 110, 116, 42]⟩ : ByteArray) false (([(⟨bt220.1, bt220.2.1, bt220.2.2⟩ : S24), (⟨0, 0, (⟨#[]⟩ : ByteArray)⟩ : S24), (⟨bt223.1, bt223.2.1, bt223.2.2⟩ : S24)] : List (S24)))).bind fun t229 => (if t229 = true then ((q3 5).bind fun bt230 => ((q1 (⟨#[97]⟩ : ByteArray)).bind fun bt233 => ((q3 5).bind fun bt236 => ((q0 bt230.1 bt230.2.1 bt230.2.2 (⟨#[109, 105, 110]⟩ : ByteArray) false (([(⟨bt233.1, bt233.2.1, bt233.2.2⟩ : S24), (⟨bt236.1, bt236.2.1, bt236.2.2⟩ : S24), (⟨0, 0, (⟨#[]⟩ : ByteArray)⟩ : S24)] : List (S24)))).bind fun t242 => (if t242 = true then ((q1 (⟨#[97]⟩ : ByteArray)).bind fun bt243 => ((q1 (⟨#[97]⟩ : ByteArray)).bind fun bt246 => ((q3 5).bind fun bt249 => ((q0 bt243.1 bt243.2.1 bt243.2.2 (⟨#[109, 97, 120]⟩ : ByteArray) false (([(⟨bt246.1, bt246.2.1, bt246.2.2⟩ : S24), (⟨bt249.1, bt249.2.1, bt249.2.2⟩ : S24), (⟨0, 0, (⟨#[]⟩ : ByteArray)⟩ : S24)] : List (S24)))).bind fun t255 => (if t255 = true then ((q1 (⟨#[49, 44, 98]⟩ : ByteArray)).bind fun bt256 => ((q1 (⟨#[98]⟩ : ByteArray)).bind fun bt259 => ((q3 1).bind fun bt262 => ((q0 bt256.1 bt256.2.1 bt256.2.2 (⟨#[103, 114, 111, 117, 112, 95, 99, 111, 110, 99, 97, 116]⟩ : ByteArray) false (([(⟨bt259.1, bt259.2.1, bt259.2.2⟩ : S24), (⟨0, 0, (⟨#[]⟩ : ByteArray)⟩ : S24), (⟨bt262.1, bt262.2.1, bt262.2.2⟩ : S24)] : List (S24)))).bind fun t268 => (some t268))))) else (some false)))))) else (some false)))))) else (some false)))))) else (some false)))))) else (some false)))))) else (some false)))) else (some false))) else (some false))))) else (some false))) = some r := H
  have A4 := am A40
  clear A40
  obtain ⟨y172, hy172⟩ : ∃ y_ : List (S24), y_ = (([(⟨t163, t164, t165⟩ : S24), (⟨t166, t167, t168⟩ : S24), (⟨t169, t170, t171⟩ : S24)] : List (S24))) := ⟨_, rfl⟩
  replace H : ((q0 t160 t161 t162 (⟨#[115, 117, 109]⟩ : ByteArray) false y172).bind fun t175 => (if t175 = true then ((q3 9223372036854775807).bind fun bt176 => ((q3 1).bind fun bt179 => ((q2 20 (⟨#[115, 117, 109]⟩ : ByteArray) (([(⟨bt176.1, bt176.2.1, bt176.2.2⟩ : S24), (⟨bt179.1, bt179.2.1, bt179.2.2⟩ : S24)] : List (S24)))).bind fun t185 => (if t185 = true then ((q0 0 0 (⟨#[]⟩ : ByteArray) (⟨#[115, 117, 109]⟩ : ByteArray) false ([] : List (S24))).bind fun t186 => (if t186 = true then ((q3 0).bind fun bt187 => ((q0 bt187.1 bt187.2.1 bt187.2.2 (⟨#[116, 111, 116, 97, 108]⟩ : ByteArray) false ([] : List (S24))).bind fun t190 => (if t190 = true then ((q3 2).bind fun bt191 => ((q3 1).bind fun bt194 => ((q3 1).bind fun bt197 => ((q0 bt191.1 bt191.2.1 bt191.2.2 (⟨#[99, 111, 117, 110, 116]⟩ : ByteArray) false (([(⟨bt194.1, bt194.2.1, bt194.2.2⟩ : S24), (⟨0, 0, (⟨#[]⟩ : ByteArray)⟩ : S24), (⟨bt197.1, bt197.2.1, bt197.2.2⟩ : S24)] : List (S24)))).bind fun t203 => (if t203 = true then ((q3 1).bind fun bt204 => ((q3 1).bind fun bt207 => ((q3 1).bind fun bt210 => ((q0 bt204.1 bt204.2.1 bt204.2.2 (⟨#[99, 111, 117, 110, 116]⟩ : ByteArray) true (([(⟨bt207.1, bt207.2.1, bt207.2.2⟩ : S24), (⟨0, 0, (⟨#[]⟩ : ByteArray)⟩ : S24), (⟨bt210.1, bt210.2.1, bt210.2.2⟩ : S24)] : List (S24)))).bind fun t216 => (if t216 = true then ((q3 3).bind fun bt217 => ((q3 1).bind fun bt220 => ((q3 1).bind fun bt223 => ((q0 bt217.1 bt217.2.1 bt217.2.2 (⟨#[99, 111, 117, 110, 116, 42]⟩ : ByteArray) false (([(⟨bt220.1, bt220.2.1, bt220.2.2⟩ : S24), (⟨0, 0, (⟨#[]⟩ : ByteArray)⟩ : S24), (⟨bt223.1, bt223.2.1, bt223.2.2⟩ : S24)] : List (S24)))).bind fun t229 => (if t229 = true then ((q3 5).bind fun bt230 => ((q1 (⟨#[97]⟩ : ByteArray)).bind fun bt233 => ((q3 5).bind fun bt236 => ((q0 bt230.1 bt230.2.1 bt230.2.2 (⟨#[109, 105, 110]⟩ : ByteArray) false (([(⟨bt233.1, bt233.2.1, bt233.2.2⟩ : S24), (⟨bt236.1, bt236.2.1, bt236.2.2⟩ : S24), (⟨0, 0, (⟨#[]⟩ : ByteArray)⟩ : S24)] : List (S24)))).bind fun t242 => (if t242 = true then ((q1 (⟨#[97]⟩ : ByteArray)).bind fun bt243 => ((q1 (⟨#[97]⟩ : ByteArray)).bind fun bt246 => ((q3 5).bind fun bt249 => ((q0 bt243.1 bt243.2.1 bt243.2.2 (⟨#[109, 97, 120]⟩ : ByteArray) false (([(⟨bt246.1, bt246.2.1, bt246.2.2⟩ : S24), (⟨bt249.1, bt249.2.1, bt249.2.2⟩ : S24), (⟨0, 0, (⟨#[]⟩ : ByteArray)⟩ : S24)] : List (S24)))).bind fun t255 => (if t255 = true then ((q1 (⟨#[49, 44, 98]⟩ : ByteArray)).bind fun bt256 => ((q1 (⟨#[98]⟩ : ByteArray)).bind fun bt259 => ((q3 1).bind fun bt262 => ((q0 bt256.1 bt256.2.1 bt256.2.2 (⟨#[103, 114, 111, 117, 112, 95, 99, 111, 110, 99, 97, 116]⟩ : ByteArray) false (([(⟨bt259.1, bt259.2.1, bt259.2.2⟩ : S24), (⟨0, 0, (⟨#[]⟩ : ByteArray)⟩ : S24), (⟨bt262.1, bt262.2.1, bt262.2.2⟩ : S24)] : List (S24)))).bind fun t268 => (some t268))))) else (some false)))))) else (some false)))))) else (some false)))))) else (some false)))))) else (some false)))))) else (some false)))) else (some false))) else (some false))))) else (some false))) = some r := by first | (rw [hy172]; with_reducible exact H) | (have H2_ := (Option.bind_some _ _).symm.trans H; rw [hy172]; with_reducible exact H2_) | (have H2_ := (Option.bind_some _ _).symm.trans H; with_reducible exact H2_) | with_reducible exact H | (rw [hy172]; exact H) | exact H
  have Ny172 := am hy172
  clear hy172
  replace H := Option.bind_eq_some_iff.mp H
  obtain ⟨t175, A50, H⟩ := H
  replace H : (if t175 = true then ((q3 9223372036854775807).bind fun bt176 => ((q3 1).bind fun bt179 => ((q2 20 (⟨#[115, 117, 109]⟩ : ByteArray) (([(⟨bt176.1, bt176.2.1, bt176.2.2⟩ : S24), (⟨bt179.1, bt179.2.1, bt179.2.2⟩ : S24)] : List (S24)))).bind fun t185 => (if t185 = true then ((q0 0 0 (⟨#[]⟩ : ByteArray) (⟨#[115, 117, 109]⟩ : ByteArray) false ([] : List (S24))).bind fun t186 => (if t186 = true then ((q3 0).bind fun bt187 => ((q0 bt187.1 bt187.2.1 bt187.2.2 (⟨#[116, 111, 116, 97, 108]⟩ : ByteArray) false ([] : List (S24))).bind fun t190 => (if t190 = true then ((q3 2).bind fun bt191 => ((q3 1).bind fun bt194 => ((q3 1).bind fun bt197 => ((q0 bt191.1 bt191.2.1 bt191.2.2 (⟨#[99, 111, 117, 110, 116]⟩ : ByteArray) false (([(⟨bt194.1, bt194.2.1, bt194.2.2⟩ : S24), (⟨0, 0, (⟨#[]⟩ : ByteArray)⟩ : S24), (⟨bt197.1, bt197.2.1, bt197.2.2⟩ : S24)] : List (S24)))).bind fun t203 => (if t203 = true then ((q3 1).bind fun bt204 => ((q3 1).bind fun bt207 => ((q3 1).bind fun bt210 => ((q0 bt204.1 bt204.2.1 bt204.2.2 (⟨#[99, 111, 117, 110, 116]⟩ : ByteArray) true (([(⟨bt207.1, bt207.2.1, bt207.2.2⟩ : S24), (⟨0, 0, (⟨#[]⟩ : ByteArray)⟩ : S24), (⟨bt210.1, bt210.2.1, bt210.2.2⟩ : S24)] : List (S24)))).bind fun t216 => (if t216 = true then ((q3 3).bind fun bt217 => ((q3 1).bind fun bt220 => ((q3 1).bind fun bt223 => ((q0 bt217.1 bt217.2.1 bt217.2.2 (⟨#[99, 111, 117, 110, 116, 42]⟩ : ByteArray) false (([(⟨bt220.1, bt220.2.1, bt220.2.2⟩ : S24), (⟨0, 0, (⟨#[]⟩ : ByteArray)⟩ : S24), (⟨bt223.1, bt223.2.1, bt223.2.2⟩ : S24)] : List (S24)))).bind fun t229 => (if t229 = true then ((q3 5).bind fun bt230 => ((q1 (⟨#[97]⟩ : ByteArray)).bind fun bt233 => ((q3 5).bind fun bt236 => ((q0 bt230.1 bt230.2.1 bt230.2.2 (⟨#[109, 105, 110]⟩ : ByteArray) false (([(⟨bt233.1, bt233.2.1, bt233.2.2⟩ : S24), (⟨bt236.1, bt236.2.1, bt236.2.2⟩ : S24), (⟨0, 0, (⟨#[]⟩ : ByteArray)⟩ : S24)] : List (S24)))).bind fun t242 => (if t242 = true then ((q1 (⟨#[97]⟩ : ByteArray)).bind fun bt243 => ((q1 (⟨#[97]⟩ : ByteArray)).bind fun bt246 => ((q3 5).bind fun bt249 => ((q0 bt243.1 bt243.2.1 bt243.2.2 (⟨#[109, 97, 120]⟩ : ByteArray) false (([(⟨bt246.1, bt246.2.1, bt246.2.2⟩ : S24), (⟨bt249.1, bt249.2.1, bt249.2.2⟩ : S24), (⟨0, 0, (⟨#[]⟩ : ByteArray)⟩ : S24)] : List (S24)))).bind fun t255 => (if t255 = true then ((q1 (⟨#[49, 44, 98]⟩ : ByteArray)).bind fun bt256 => ((q1 (⟨#[98]⟩ : ByteArray)).bind fun bt259 => ((q3 1).bind fun bt262 => ((q0 bt256.1 bt256.2.1 bt256.2.2 (⟨#[103, 114, 111, 117, 112, 95, 99, 111, 110, 99, 97, 116]⟩ : ByteArray) false (([(⟨bt259.1, bt259.2.1, bt259.2.2⟩ : S24), (⟨0, 0, (⟨#[]⟩ : ByteArray)⟩ : S24), (⟨bt262.1, bt262.2.1, bt262.2.2⟩ : S24)] : List (S24)))).bind fun t268 => (some t268))))) else (some false)))))) else (some false)))))) else (some false)))))) else (some false)))))) else (some false)))))) else (some false)))) else (some false))) else (some false))))) else (some false)) = some r := H
  have A5 := am A50
  clear A50
  by_cases c6 : t175 = true
  · subst c6
    have H1 : ((q3 9223372036854775807).bind fun bt176 => ((q3 1).bind fun bt179 => ((q2 20 (⟨#[115, 117, 109]⟩ : ByteArray) (([(⟨bt176.1, bt176.2.1, bt176.2.2⟩ : S24), (⟨bt179.1, bt179.2.1, bt179.2.2⟩ : S24)] : List (S24)))).bind fun t185 => (if t185 = true then ((q0 0 0 (⟨#[]⟩ : ByteArray) (⟨#[115, 117, 109]⟩ : ByteArray) false ([] : List (S24))).bind fun t186 => (if t186 = true then ((q3 0).bind fun bt187 => ((q0 bt187.1 bt187.2.1 bt187.2.2 (⟨#[116, 111, 116, 97, 108]⟩ : ByteArray) false ([] : List (S24))).bind fun t190 => (if t190 = true then ((q3 2).bind fun bt191 => ((q3 1).bind fun bt194 => ((q3 1).bind fun bt197 => ((q0 bt191.1 bt191.2.1 bt191.2.2 (⟨#[99, 111, 117, 110, 116]⟩ : ByteArray) false (([(⟨bt194.1, bt194.2.1, bt194.2.2⟩ : S24), (⟨0, 0, (⟨#[]⟩ : ByteArray)⟩ : S24), (⟨bt197.1, bt197.2.1, bt197.2.2⟩ : S24)] : List (S24)))).bind fun t203 => (if t203 = true then ((q3 1).bind fun bt204 => ((q3 1).bind fun bt207 => ((q3 1).bind fun bt210 => ((q0 bt204.1 bt204.2.1 bt204.2.2 (⟨#[99, 111, 117, 110, 116]⟩ : ByteArray) true (([(⟨bt207.1, bt207.2.1, bt207.2.2⟩ : S24), (⟨0, 0, (⟨#[]⟩ : ByteArray)⟩ : S24), (⟨bt210.1, bt210.2.1, bt210.2.2⟩ : S24)] : List (S24)))).bind fun t216 => (if t216 = true then ((q3 3).bind fun bt217 => ((q3 1).bind fun bt220 => ((q3 1).bind fun bt223 => ((q0 bt217.1 bt217.2.1 bt217.2.2 (⟨#[99, 111, 117, 110, 116, 42]⟩ : ByteArray) false (([(⟨bt220.1, bt220.2.1, bt220.2.2⟩ : S24), (⟨0, 0, (⟨#[]⟩ : ByteArray)⟩ : S24), (⟨bt223.1, bt223.2.1, bt223.2.2⟩ : S24)] : List (S24)))).bind fun t229 => (if t229 = true then ((q3 5).bind fun bt230 => ((q1 (⟨#[97]⟩ : ByteArray)).bind fun bt233 => ((q3 5).bind fun bt236 => ((q0 bt230.1 bt230.2.1 bt230.2.2 (⟨#[109, 105, 110]⟩ : ByteArray) false (([(⟨bt233.1, bt233.2.1, bt233.2.2⟩ : S24), (⟨bt236.1, bt236.2.1, bt236.2.2⟩ : S24), (⟨0, 0, (⟨#[]⟩ : ByteArray)⟩ : S24)] : List (S24)))).bind fun t242 => (if t242 = true then ((q1 (⟨#[97]⟩ : ByteArray)).bind fun bt243 => ((q1 (⟨#[97]⟩ : ByteArray)).bind fun bt246 => ((q3 5).bind fun bt249 => ((q0 bt243.1 bt243.2.1 bt243.2.2 (⟨#[109, 97, 120]⟩ : ByteArray) false (([(⟨bt246.1, bt246.2.1, bt246.2.2⟩ : S24), (⟨bt249.1, bt249.2.1, bt249.2.2⟩ : S24), (⟨0, 0, (⟨#[]⟩ : ByteArray)⟩ : S24)] : List (S24)))).bind fun t255 => (if t255 = true then ((q1 (⟨#[49, 44, 98]⟩ : ByteArray)).bind fun bt256 => ((q1 (⟨#[98]⟩ : ByteArray)).bind fun bt259 => ((q3 1).bind fun bt262 => ((q0 bt256.1 bt256.2.1 bt256.2.2 (⟨#[103, 114, 111, 117, 112, 95, 99, 111, 110, 99, 97, 116]⟩ : ByteArray) false (([(⟨bt259.1, bt259.2.1, bt259.2.2⟩ : S24), (⟨0, 0, (⟨#[]⟩ : ByteArray)⟩ : S24), (⟨bt262.1, bt262.2.1, bt262.2.2⟩ : S24)] : List (S24)))).bind fun t268 => (some t268))))) else (some false)))))) else (some false)))))) else (some false)))))) else (some false)))))) else (some false)))))) else (some false)))) else (some false))) else (some false))))) = some r := by rw [if_pos rfl] at H; exact H
    clear H
    have H := H1
    clear H1
    replace H := Option.bind_eq_some_iff.mp H
    obtain ⟨⟨t176, t177, t178⟩, A70, H⟩ := H
    replace H : ((q3 1).bind fun bt179 => ((q2 20 (⟨#[115, 117, 109]⟩ : ByteArray) (([(⟨t176, t177, t178⟩ : S24), (⟨bt179.1, bt179.2.1, bt179.2.2⟩ : S24)] : List (S24)))).bind fun t185 => (if t185 = true then ((q0 0 0 (⟨#[]⟩ : ByteArray) (⟨#[115, 117, 109]⟩ : ByteArray) false ([] : List (S24))).bind fun t186 => (if t186 = true then ((q3 0).bind fun bt187 => ((q0 bt187.1 bt187.2.1 bt187.2.2 (⟨#[116, 111, 116, 97, 108]⟩ : ByteArray) false ([] : List (S24))).bind fun t190 => (if t190 = true then ((q3 2).bind fun bt191 => ((q3 1).bind fun bt194 => ((q3 1).bind fun bt197 => ((q0 bt191.1 bt191.2.1 bt191.2.2 (⟨#[99, 111, 117, 110, 116]⟩ : ByteArray) false (([(⟨bt194.1, bt194.2.1, bt194.2.2⟩ : S24), (⟨0, 0, (⟨#[]⟩ : ByteArray)⟩ : S24), (⟨bt197.1, bt197.2.1, bt197.2.2⟩ : S24)] : List (S24)))).bind fun t203 => (if t203 = true then ((q3 1).bind fun bt204 => ((q3 1).bind fun bt207 => ((q3 1).bind fun bt210 => ((q0 bt204.1 bt204.2.1 bt204.2.2 (⟨#[99, 111, 117, 110, 116]⟩ : ByteArray) true (([(⟨bt207.1, bt207.2.1, bt207.2.2⟩ : S24), (⟨0, 0, (⟨#[]⟩ : ByteArray)⟩ : S24), (⟨bt210.1, bt210.2.1, bt210.2.2⟩ : S24)] : List (S24)))).bind fun t216 => (if t216 = true then ((q3 3).bind fun bt217 => ((q3 1).bind fun bt220 => ((q3 1).bind fun bt223 => ((q0 bt217.1 bt217.2.1 bt217.2.2 (⟨#[99, 111, 117, 110, 116, 42]⟩ : ByteArray) false (([(⟨bt220.1, bt220.2.1, bt220.2.2⟩ : S24), (⟨0, 0, (⟨#[]⟩ : ByteArray)⟩ : S24), (⟨bt223.1, bt223.2.1, bt223.2.2⟩ : S24)] : List (S24)))).bind fun t229 => (if t229 = true then ((q3 5).bind fun bt230 => ((q1 (⟨#[97]⟩ : ByteArray)).bind fun bt233 => ((q3 5).bind fun bt236 => ((q0 bt230.1 bt230.2.1 bt230.2.2 (⟨#[109, 105, 110]⟩ : ByteArray) false (([(⟨bt233.1, bt233.2.1, bt233.2.2⟩ : S24), (⟨bt236.1, bt236.2.1, bt236.2.2⟩ : S24), (⟨0, 0, (⟨#[]⟩ : ByteArray)⟩ : S24)] : List (S24)))).bind fun t242 => (if t242 = true then ((q1 (⟨#[97]⟩ : ByteArray)).bind fun bt243 => ((q1 (⟨#[97]⟩ : ByteArray)).bind fun bt246 => ((q3 5).bind fun bt249 => ((q0 bt243.1 bt243.2.1 bt243.2.2 (⟨#[109, 97, 120]⟩ : ByteArray) false (([(⟨bt246.1, bt246.2.1, bt246.2.2⟩ : S24), (⟨bt249.1, bt249.2.1, bt249.2.2⟩ : S24), (⟨0, 0, (⟨#[]⟩ : ByteArray)⟩ : S24)] : List (S24)))).bind fun t255 => (if t255 = true then ((q1 (⟨#[49, 44, 98]⟩ : ByteArray)).bind fun bt256 => ((q1 (⟨#[98]⟩ : ByteArray)).bind fun bt259 => ((q3 1).bind fun bt262 => ((q0 bt256.1 bt256.2.1 bt256.2.2 (⟨#[103, 114, 111, 117, 112, 95, 99, 111, 110, 99, 97, 116]⟩ : ByteArray) false (([(⟨bt259.1, bt259.2.1, bt259.2.2⟩ : S24), (⟨0, 0, (⟨#[]⟩ : ByteArray)⟩ : S24), (⟨bt262.1, bt262.2.1, bt262.2.2⟩ : S24)] : List (S24)))).bind fun t268 => (some t268))))) else (some false)))))) else (some false)))))) else (some false)))))) else (some false)))))) else (some false)))))) else (some false)))) else (some false))) else (some false)))) = some r := H
    have A7 := am A70
    clear A70
    replace H := Option.bind_eq_some_iff.mp H
    obtain ⟨⟨t179, t180, t181⟩, A80, H⟩ := H
    replace H : ((q2 20 (⟨#[115, 117, 109]⟩ : ByteArray) (([(⟨t176, t177, t178⟩ : S24), (⟨t179, t180, t181⟩ : S24)] : List (S24)))).bind fun t185 => (if t185 = true then ((q0 0 0 (⟨#[]⟩ : ByteArray) (⟨#[115, 117, 109]⟩ : ByteArray) false ([] : List (S24))).bind fun t186 => (if t186 = true then ((q3 0).bind fun bt187 => ((q0 bt187.1 bt187.2.1 bt187.2.2 (⟨#[116, 111, 116, 97, 108]⟩ : ByteArray) false ([] : List (S24))).bind fun t190 => (if t190 = true then ((q3 2).bind fun bt191 => ((q3 1).bind fun bt194 => ((q3 1).bind fun bt197 => ((q0 bt191.1 bt191.2.1 bt191.2.2 (⟨#[99, 111, 117, 110, 116]⟩ : ByteArray) false (([(⟨bt194.1, bt194.2.1, bt194.2.2⟩ : S24), (⟨0, 0, (⟨#[]⟩ : ByteArray)⟩ : S24), (⟨bt197.1, bt197.2.1, bt197.2.2⟩ : S24)] : List (S24)))).bind fun t203 => (if t203 = true then ((q3 1).bind fun bt204 => ((q3 1).bind fun bt207 => ((q3 1).bind fun bt210 => ((q0 bt204.1 bt204.2.1 bt204.2.2 (⟨#[99, 111, 117, 110, 116]⟩ : ByteArray) true (([(⟨bt207.1, bt207.2.1, bt207.2.2⟩ : S24), (⟨0, 0, (⟨#[]⟩ : ByteArray)⟩ : S24), (⟨bt210.1, bt210.2.1, bt210.2.2⟩ : S24)] : List (S24)))).bind fun t216 => (if t216 = true then ((q3 3).bind fun bt217 => ((q3 1).bind fun bt220 => ((q3 1).bind fun bt223 => ((q0 bt217.1 bt217.2.1 bt217.2.2 (⟨#[99, 111, 117, 110, 116, 42]⟩ : ByteArray) false (([(⟨bt220.1, bt220.2.1, bt220.2.2⟩ : S24), (⟨0, 0, (⟨#[]⟩ : ByteArray)⟩ : S24), (⟨bt223.1, bt223.2.1, bt223.2.2⟩ : S24)] : List (S24)))).bind fun t229 => (if t229 = true then ((q3 5).bind fun bt230 => ((q1 (⟨#[97]⟩ : ByteArray)).bind fun bt233 => ((q3 5).bind fun bt236 => ((q0 bt230.1 bt230.2.1 bt230.2.2 (⟨#[109, 105, 110]⟩ : ByteArray) false (([(⟨bt233.1, bt233.2.1, bt233.2.2⟩ : S24), (⟨bt236.1, bt236.2.1, bt236.2.2⟩ : S24), (⟨0, 0, (⟨#[]⟩ : ByteArray)⟩ : S24)] : List (S24)))).bind fun t242 => (if t242 = true then ((q1 (⟨#[97]⟩ : ByteArray)).bind fun bt243 => ((q1 (⟨#[97]⟩ : ByteArray)).bind fun bt246 => ((q3 5).bind fun bt249 => ((q0 bt243.1 bt243.2.1 bt243.2.2 (⟨#[109, 97, 120]⟩ : ByteArray) false (([(⟨bt246.1, bt246.2.1, bt246.2.2⟩ : S24), (⟨bt249.1, bt249.2.1, bt249.2.2⟩ : S24), (⟨0, 0, (⟨#[]⟩ : ByteArray)⟩ : S24)] : List (S24)))).bind fun t255 => (if t255 = true then ((q1 (⟨#[49, 44, 98]⟩ : ByteArray)).bind fun bt256 => ((q1 (⟨#[98]⟩ : ByteArray)).bind fun bt259 => ((q3 1).bind fun bt262 => ((q0 bt256.1 bt256.2.1 bt256.2.2 (⟨#[103, 114, 111, 117, 112, 95, 99, 111, 110, 99, 97, 116]⟩ : ByteArray) false (([(⟨bt259.1, bt259.2.1, bt259.2.2⟩ : S24), (⟨0, 0, (⟨#[]⟩ : ByteArray)⟩ : S24), (⟨bt262.1, bt262.2.1, bt262.2.2⟩ : S24)] : List (S24)))).bind fun t268 => (some t268))))) else (some false)))))) else (some false)))))) else (some false)))))) else (some false)))))) else (some false)))))) else (some false)))) else (some false))) else (some false))) = some r := H
    have A8 := am A80
    clear A80
    obtain ⟨y182, hy182⟩ : ∃ y_ : List (S24), y_ = (([(⟨t176, t177, t178⟩ : S24), (⟨t179, t180, t181⟩ : S24)] : List (S24))) := ⟨_, rfl⟩
    replace H : ((q2 20 (⟨#[115, 117, 109]⟩ : ByteArray) y182).bind fun t185 => (if t185 = true then ((q0 0 0 (⟨#[]⟩ : ByteArray) (⟨#[115, 117, 109]⟩ : ByteArray) false ([] : List (S24))).bind fun t186 => (if t186 = true then ((q3 0).bind fun bt187 => ((q0 bt187.1 bt187.2.1 bt187.2.2 (⟨#[116, 111, 116, 97, 108]⟩ : ByteArray) false ([] : List (S24))).bind fun t190 => (if t190 = true then ((q3 2).bind fun bt191 => ((q3 1).bind fun bt194 => ((q3 1).bind fun bt197 => ((q0 bt191.1 bt191.2.1 bt191.2.2 (⟨#[99, 111, 117, 110, 116]⟩ : ByteArray) false (([(⟨bt194.1, bt194.2.1, bt194.2.2⟩ : S24), (⟨0, 0, (⟨#[]⟩ : ByteArray)⟩ : S24), (⟨bt197.1, bt197.2.1, bt197.2.2⟩ : S24)] : List (S24)))).bind fun t203 => (if t203 = true then ((q3 1).bind fun bt204 => ((q3 1).bind fun bt207 => ((q3 1).bind fun bt210 => ((q0 bt204.1 bt204.2.1 bt204.2.2 (⟨#[99, 111, 117, 110, 116]⟩ : ByteArray) true (([(⟨bt207.1, bt207.2.1, bt207.2.2⟩ : S24), (⟨0, 0, (⟨#[]⟩ : ByteArray)⟩ : S24), (⟨bt210.1, bt210.2.1, bt210.2.2⟩ : S24)] : List (S24)))).bind fun t216 => (if t216 = true then ((q3 3).bind fun bt217 => ((q3 1).bind fun bt220 => ((q3 1).bind fun bt223 => ((q0 bt217.1 bt217.2.1 bt217.2.2 (⟨#[99, 111, 117, 110, 116, 42]⟩ : ByteArray) false (([(⟨bt220.1, bt220.2.1, bt220.2.2⟩ : S24), (⟨0, 0, (⟨#[]⟩ : ByteArray)⟩ : S24), (⟨bt223.1, bt223.2.1, bt223.2.2⟩ : S24)] : List (S24)))).bind fun t229 => (if t229 = true then ((q3 5).bind fun bt230 => ((q1 (⟨#[97]⟩ : ByteArray)).bind fun bt233 => ((q3 5).bind fun bt236 => ((q0 bt230.1 bt230.2.1 bt230.2.2 (⟨#[109, 105, 110]⟩ : ByteArray) false (([(⟨bt233.1, bt233.2.1, bt233.2.2⟩ : S24), (⟨bt236.1, bt236.2.1, bt236.2.2⟩ : S24), (⟨0, 0, (⟨#[]⟩ : ByteArray)⟩ : S24)] : List (S24)))).bind fun t242 => (if t242 = true then ((q1 (⟨#[97]⟩ : ByteArray)).bind fun bt243 => ((q1 (⟨#[97]⟩ : ByteArray)).bind fun bt246 => ((q3 5).bind fun bt249 => ((q0 bt243.1 bt243.2.1 bt243.2.2 (⟨#[109, 97, 120]⟩ : ByteArray) false (([(⟨bt246.1, bt246.2.1, bt246.2.2⟩ : S24), (⟨bt249.1, bt249.2.1, bt249.2.2⟩ : S24), (⟨0, 0, (⟨#[]⟩ : ByteArray)⟩ : S24)] : List (S24)))).bind fun t255 => (if t255 = true then ((q1 (⟨#[49, 44, 98]⟩ : ByteArray)).bind fun bt256 => ((q1 (⟨#[98]⟩ : ByteArray)).bind fun bt259 => ((q3 1).bind fun bt262 => ((q0 bt256.1 bt256.2.1 bt256.2.2 (⟨#[103, 114, 111, 117, 112, 95, 99, 111, 110, 99, 97, 116]⟩ : ByteArray) false (([(⟨bt259.1, bt259.2.1, bt259.2.2⟩ : S24), (⟨0, 0, (⟨#[]⟩ : ByteArray)⟩ : S24), (⟨bt262.1, bt262.2.1, bt262.2.2⟩ : S24)] : List (S24)))).bind fun t268 => (some t268))))) else (some false)))))) else (some false)))))) else (some false)))))) else (some false)))))) else (some false)))))) else (some false)))) else (some false))) else (some false))) = some r := by first | (rw [hy182]; with_reducible exact H) | (have H2_ := (Option.bind_some _ _).symm.trans H; rw [hy182]; with_reducible exact H2_) | (have H2_ := (Option.bind_some _ _).symm.trans H; with_reducible exact H2_) | with_reducible exact H | (rw [hy182]; exact H) | exact H
    have Ny182 := am hy182
    clear hy182
    replace H := Option.bind_eq_some_iff.mp H
    obtain ⟨t185, A90, H⟩ := H
    replace H : (if t185 = true then ((q0 0 0 (⟨#[]⟩ : ByteArray) (⟨#[115, 117, 109]⟩ : ByteArray) false ([] : List (S24))).bind fun t186 => (if t186 = true then ((q3 0).bind fun bt187 => ((q0 bt187.1 bt187.2.1 bt187.2.2 (⟨#[116, 111, 116, 97, 108]⟩ : ByteArray) false ([] : List (S24))).bind fun t190 => (if t190 = true then ((q3 2).bind fun bt191 => ((q3 1).bind fun bt194 => ((q3 1).bind fun bt197 => ((q0 bt191.1 bt191.2.1 bt191.2.2 (⟨#[99, 111, 117, 110, 116]⟩ : ByteArray) false (([(⟨bt194.1, bt194.2.1, bt194.2.2⟩ : S24), (⟨0, 0, (⟨#[]⟩ : ByteArray)⟩ : S24), (⟨bt197.1, bt197.2.1, bt197.2.2⟩ : S24)] : List (S24)))).bind fun t203 => (if t203 = true then ((q3 1).bind fun bt204 => ((q3 1).bind fun bt207 => ((q3 1).bind fun bt210 => ((q0 bt204.1 bt204.2.1 bt204.2.2 (⟨#[99, 111, 117, 110, 116]⟩ : ByteArray) true (([(⟨bt207.1, bt207.2.1, bt207.2.2⟩ : S24), (⟨0, 0, (⟨#[]⟩ : ByteArray)⟩ : S24), (⟨bt210.1, bt210.2.1, bt210.2.2⟩ : S24)] : List (S24)))).bind fun t216 => (if t216 = true then ((q3 3).bind fun bt217 => ((q3 1).bind fun bt220 => ((q3 1).bind fun bt223 => ((q0 bt217.1 bt217.2.1 bt217.2.2 (⟨#[99, 111, 117, 110, 116, 42]⟩ : ByteArray) false (([(⟨bt220.1, bt220.2.1, bt220.2.2⟩ : S24), (⟨0, 0, (⟨#[]⟩ : ByteArray)⟩ : S24), (⟨bt223.1, bt223.2.1, bt223.2.2⟩ : S24)] : List (S24)))).bind fun t229 => (if t229 = true then ((q3 5).bind fun bt230 => ((q1 (⟨#[97]⟩ : ByteArray)).bind fun bt233 => ((q3 5).bind fun bt236 => ((q0 bt230.1 bt230.2.1 bt230.2.2 (⟨#[109, 105, 110]⟩ : ByteArray) false (([(⟨bt233.1, bt233.2.1, bt233.2.2⟩ : S24), (⟨bt236.1, bt236.2.1, bt236.2.2⟩ : S24), (⟨0, 0, (⟨#[]⟩ : ByteArray)⟩ : S24)] : List (S24)))).bind fun t242 => (if t242 = true then ((q1 (⟨#[97]⟩ : ByteArray)).bind fun bt243 => ((q1 (⟨#[97]⟩ : ByteArray)).bind fun bt246 => ((q3 5).bind fun bt249 => ((q0 bt243.1 bt243.2.1 bt243.2.2 (⟨#[109, 97, 120]⟩ : ByteArray) false (([(⟨bt246.1, bt246.2.1, bt246.2.2⟩ : S24), (⟨bt249.1, bt249.2.1, bt249.2.2⟩ : S24), (⟨0, 0, (⟨#[]⟩ : ByteArray)⟩ : S24)] : List (S24)))).bind fun t255 => (if t255 = true then ((q1 (⟨#[49, 44, 98]⟩ : ByteArray)).bind fun bt256 => ((q1 (⟨#[98]⟩ : ByteArray)).bind fun bt259 => ((q3 1).bind fun bt262 => ((q0 bt256.1 bt256.2.1 bt256.2.2 (⟨#[103, 114, 111, 117, 112, 95, 99, 111, 110, 99, 97, 116]⟩ : ByteArray) false (([(⟨bt259.1, bt259.2.1, bt259.2.2⟩ : S24), (⟨0, 0, (⟨#[]⟩ : ByteArray)⟩ : S24), (⟨bt262.1, bt262.2.1, bt262.2.2⟩ : S24)] : List (S24)))).bind fun t268 => (some t268))))) else (some false)))))) else (some false)))))) else (some false)))))) else (some false)))))) else (some false)))))) else (some false)))) else (some false))) else (some false)) = some r := H
    have A9 := am A90
    clear A90
    by_cases c10 : t185 = true
    · subst c10
      have H1 : ((q0 0 0 (⟨#[]⟩ : ByteArray) (⟨#[115, 117, 109]⟩ : ByteArray) false ([] : List (S24))).bind fun t186 => (if t186 = true then ((q3 0).bind fun bt187 => ((q0 bt187.1 bt187.2.1 bt187.2.2 (⟨#[116, 111, 116, 97, 108]⟩ : ByteArray) false ([] : List (S24))).bind fun t190 => (if t190 = true then ((q3 2).bind fun bt191 => ((q3 1).bind fun bt194 => ((q3 1).bind fun bt197 => ((q0 bt191.1 bt191.2.1 bt191.2.2 (⟨#[99, 111, 117, 110, 116]⟩ : ByteArray) false (([(⟨bt194.1, bt194.2.1, bt194.2.2⟩ : S24), (⟨0, 0, (⟨#[]⟩ : ByteArray)⟩ : S24), (⟨bt197.1, bt197.2.1, bt197.2.2⟩ : S24)] : List (S24)))).bind fun t203 => (if t203 = true then ((q3 1).bind fun bt204 => ((q3 1).bind fun bt207 => ((q3 1).bind fun bt210 => ((q0 bt204.1 bt204.2.1 bt204.2.2 (⟨#[99, 111, 117, 110, 116]⟩ : ByteArray) true (([(⟨bt207.1, bt207.2.1, bt207.2.2⟩ : S24), (⟨0, 0, (⟨#[]⟩ : ByteArray)⟩ : S24), (⟨bt210.1, bt210.2.1, bt210.2.2⟩ : S24)] : List (S24)))).bind fun t216 => (if t216 = true then ((q3 3).bind fun bt217 => ((q3 1).bind fun bt220 => ((q3 1).bind fun bt223 => ((q0 bt217.1 bt217.2.1 bt217.2.2 (⟨#[99, 111, 117, 110, 116, 42]⟩ : ByteArray) false (([(⟨bt220.1, bt220.2.1, bt220.2.2⟩ : S24), (⟨0, 0, (⟨#[]⟩ : ByteArray)⟩ : S24), (⟨bt223.1, bt223.2.1, bt223.2.2⟩ : S24)] : List (S24)))).bind fun t229 => (if t229 = true then ((q3 5).bind fun bt230 => ((q1 (⟨#[97]⟩ : ByteArray)).bind fun bt233 => ((q3 5).bind fun bt236 => ((q0 bt230.1 bt230.2.1 bt230.2.2 (⟨#[109, 105, 110]⟩ : ByteArray) false (([(⟨bt233.1, bt233.2.1, bt233.2.2⟩ : S24), (⟨bt236.1, bt236.2.1, bt236.2.2⟩ : S24), (⟨0, 0, (⟨#[]⟩ : ByteArray)⟩ : S24)] : List (S24)))).bind fun t242 => (if t242 = true then ((q1 (⟨#[97]⟩ : ByteArray)).bind fun bt243 => ((q1 (⟨#[97]⟩ : ByteArray)).bind fun bt246 => ((q3 5).bind fun bt249 => ((q0 bt243.1 bt243.2.1 bt243.2.2 (⟨#[109, 97, 120]⟩ : ByteArray) false (([(⟨bt246.1, bt246.2.1, bt246.2.2⟩ : S24), (⟨bt249.1, bt249.2.1, bt249.2.2⟩ : S24), (⟨0, 0, (⟨#[]⟩ : ByteArray)⟩ : S24)] : List (S24)))).bind fun t255 => (if t255 = true then ((q1 (⟨#[49, 44, 98]⟩ : ByteArray)).bind fun bt256 => ((q1 (⟨#[98]⟩ : ByteArray)).bind fun bt259 => ((q3 1).bind fun bt262 => ((q0 bt256.1 bt256.2.1 bt256.2.2 (⟨#[103, 114, 111, 117, 112, 95, 99, 111, 110, 99, 97, 116]⟩ : ByteArray) false (([(⟨bt259.1, bt259.2.1, bt259.2.2⟩ : S24), (⟨0, 0, (⟨#[]⟩ : ByteArray)⟩ : S24), (⟨bt262.1, bt262.2.1, bt262.2.2⟩ : S24)] : List (S24)))).bind fun t268 => (some t268))))) else (some false)))))) else (some false)))))) else (some false)))))) else (some false)))))) else (some false)))))) else (some false)))) else (some false))) = some r := by rw [if_pos rfl] at H; exact H
      clear H
      have H := H1
      clear H1
      replace H := Option.bind_eq_some_iff.mp H
      obtain ⟨t186, A110, H⟩ := H
      replace H : (if t186 = true then ((q3 0).bind fun bt187 => ((q0 bt187.1 bt187.2.1 bt187.2.2 (⟨#[116, 111, 116, 97, 108]⟩ : ByteArray) false ([] : List (S24))).bind fun t190 => (if t190 = true then ((q3 2).bind fun bt191 => ((q3 1).bind fun bt194 => ((q3 1).bind fun bt197 => ((q0 bt191.1 bt191.2.1 bt191.2.2 (⟨#[99, 111, 117, 110, 116]⟩ : ByteArray) false (([(⟨bt194.1, bt194.2.1, bt194.2.2⟩ : S24), (⟨0, 0, (⟨#[]⟩ : ByteArray)⟩ : S24), (⟨bt197.1, bt197.2.1, bt197.2.2⟩ : S24)] : List (S24)))).bind fun t203 => (if t203 = true then ((q3 1).bind fun bt204 => ((q3 1).bind fun bt207 => ((q3 1).bind fun bt210 => ((q0 bt204.1 bt204.2.1 bt204.2.2 (⟨#[99, 111, 117, 110, 116]⟩ : ByteArray) true (([(⟨bt207.1, bt207.2.1, bt207.2.2⟩ : S24), (⟨0, 0, (⟨#[]⟩ : ByteArray)⟩ : S24), (⟨bt210.1, bt210.2.1, bt210.2.2⟩ : S24)] : List (S24)))).bind fun t216 => (if t216 = true then ((q3 3).bind fun bt217 => ((q3 1).bind fun bt220 => ((q3 1).bind fun bt223 => ((q0 bt217.1 bt217.2.1 bt217.2.2 (⟨#[99, 111, 117, 110, 116, 42]⟩ : ByteArray) false (([(⟨bt220.1, bt220.2.1, bt220.2.2⟩ : S24), (⟨0, 0, (⟨#[]⟩ : ByteArray)⟩ : S24), (⟨bt223.1, bt223.2.1, bt223.2.2⟩ : S24)] : List (S24)))).bind fun t229 => (if t229 = true then ((q3 5).bind fun bt230 => ((q1 (⟨#[97]⟩ : ByteArray)).bind fun bt233 => ((q3 5).bind fun bt236 => ((q0 bt230.1 bt230.2.1 bt230.2.2 (⟨#[109, 105, 110]⟩ : ByteArray) false (([(⟨bt233.1, bt233.2.1, bt233.2.2⟩ : S24), (⟨bt236.1, bt236.2.1, bt236.2.2⟩ : S24), (⟨0, 0, (⟨#[]⟩ : ByteArray)⟩ : S24)] : List (S24)))).bind fun t242 => (if t242 = true then ((q1 (⟨#[97]⟩ : ByteArray)).bind fun bt243 => ((q1 (⟨#[97]⟩ : ByteArray)).bind fun bt246 => ((q3 5).bind fun bt249 => ((q0 bt243.1 bt243.2.1 bt243.2.2 (⟨#[109, 97, 120]⟩ : ByteArray) false (([(⟨bt246.1, bt246.2.1, bt246.2.2⟩ : S24), (⟨bt249.1, bt249.2.1, bt249.2.2⟩ : S24), (⟨0, 0, (⟨#[]⟩ : ByteArray)⟩ : S24)] : List (S24)))).bind fun t255 => (if t255 = true then ((q1 (⟨#[49, 44, 98]⟩ : ByteArray)).bind fun bt256 => ((q1 (⟨#[98]⟩ : ByteArray)).bind fun bt259 => ((q3 1).bind fun bt262 => ((q0 bt256.1 bt256.2.1 bt256.2.2 (⟨#[103, 114, 111, 117, 112, 95, 99, 111, 110, 99, 97, 116]⟩ : ByteArray) false (([(⟨bt259.1, bt259.2.1, bt259.2.2⟩ : S24), (⟨0, 0, (⟨#[]⟩ : ByteArray)⟩ : S24), (⟨bt262.1, bt262.2.1, bt262.2.2⟩ : S24)] : List (S24)))).bind fun t268 => (some t268))))) else (some false)))))) else (some false)))))) else (some false)))))) else (some false)))))) else (some false)))))) else (some false)))) else (some false)) = some r := H
      have A11 := am A110
      clear A110
      by_cases c12 : t186 = true
      · subst c12
        have H1 : ((q3 0).bind fun bt187 => ((q0 bt187.1 bt187.2.1 bt187.2.2 (⟨#[116, 111, 116, 97, 108]⟩ : ByteArray) false ([] : List (S24))).bind fun t190 => (if t190 = true then ((q3 2).bind fun bt191 => ((q3 1).bind fun bt194 => ((q3 1).bind fun bt197 => ((q0 bt191.1 bt191.2.1 bt191.2.2 (⟨#[99, 111, 117, 110, 116]⟩ : ByteArray) false (([(⟨bt194.1, bt194.2.1, bt194.2.2⟩ : S24), (⟨0, 0, (⟨#[]⟩ : ByteArray)⟩ : S24), (⟨bt197.1, bt197.2.1, bt197.2.2⟩ : S24)] : List (S24)))).bind fun t203 => (if t203 = true then ((q3 1).bind fun bt204 => ((q3 1).bind fun bt207 => ((q3 1).bind fun bt210 => ((q0 bt204.1 bt204.2.1 bt204.2.2 (⟨#[99, 111, 117, 110, 116]⟩ : ByteArray) true (([(⟨bt207.1, bt207.2.1, bt207.2.2⟩ : S24), (⟨0, 0, (⟨#[]⟩ : ByteArray)⟩ : S24), (⟨bt210.1, bt210.2.1, bt210.2.2⟩ : S24)] : List (S24)))).bind fun t216 => (if t216 = true then ((q3 3).bind fun bt217 => ((q3 1).bind fun bt220 => ((q3 1).bind fun bt223 => ((q0 bt217.1 bt217.2.1 bt217.2.2 (⟨#[99, 111, 117, 110, 116, 42]⟩ : ByteArray) false (([(⟨bt220.1, bt220.2.1, bt220.2.2⟩ : S24), (⟨0, 0, (⟨#[]⟩ : ByteArray)⟩ : S24), (⟨bt223.1, bt223.2.1, bt223.2.2⟩ : S24)] : List (S24)))).bind fun t229 => (if t229 = true then ((q3 5).bind fun bt230 => ((q1 (⟨#[97]⟩ : ByteArray)).bind fun bt233 => ((q3 5).bind fun bt236 => ((q0 bt230.1 bt230.2.1 bt230.2.2 (⟨#[109, 105, 110]⟩ : ByteArray) false (([(⟨bt233.1, bt233.2.1, bt233.2.2⟩ : S24), (⟨bt236.1, bt236.2.1, bt236.2.2⟩ : S24), (⟨0, 0, (⟨#[]⟩ : ByteArray)⟩ : S24)] : List (S24)))).bind fun t242 => (if t242 = true then ((q1 (⟨#[97]⟩ : ByteArray)).bind fun bt243 => ((q1 (⟨#[97]⟩ : ByteArray)).bind fun bt246 => ((q3 5).bind fun bt249 => ((q0 bt243.1 bt243.2.1 bt243.2.2 (⟨#[109, 97, 120]⟩ : ByteArray) false (([(⟨bt246.1, bt246.2.1, bt246.2.2⟩ : S24), (⟨bt249.1, bt249.2.1, bt249.2.2⟩ : S24), (⟨0, 0, (⟨#[]⟩ : ByteArray)⟩ : S24)] : List (S24)))).bind fun t255 => (if t255 = true then ((q1 (⟨#[49, 44, 98]⟩ : ByteArray)).bind fun bt256 => ((q1 (⟨#[98]⟩ : ByteArray)).bind fun bt259 => ((q3 1).bind fun bt262 => ((q0 bt256.1 bt256.2.1 bt256.2.2 (⟨#[103, 114, 111, 117, 112, 95, 99, 111, 110, 99, 97, 116]⟩ : ByteArray) false (([(⟨bt259.1, bt259.2.1, bt259.2.2⟩ : S24), (⟨0, 0, (⟨#[]⟩ : ByteArray)⟩ : S24), (⟨bt262.1, bt262.2.1, bt262.2.2⟩ : S24)] : List (S24)))).bind fun t268 => (some t268))))) else (some false)))))) else (some false)))))) else (some false)))))) else (some false)))))) else (some false)))))) else (some false)))) = some r := by rw [if_pos rfl] at H; exact H
        clear H
        have H := H1
        clear H1
        replace H := Option.bind_eq_some_iff.mp H
        obtain ⟨⟨t187, t188, t189⟩, A130, H⟩ := H
        replace H : ((q0 t187 t188 t189 (⟨#[116, 111, 116, 97, 108]⟩ : ByteArray) false ([] : List (S24))).bind fun t190 => (if t190 = true then ((q3 2).bind fun bt191 => ((q3 1).bind fun bt194 => ((q3 1).bind fun bt197 => ((q0 bt191.1 bt191.2.1 bt191.2.2 (⟨#[99, 111, 117, 110, 116]⟩ : ByteArray) false (([(⟨bt194.1, bt194.2.1, bt194.2.2⟩ : S24), (⟨0, 0, (⟨#[]⟩ : ByteArray)⟩ : S24), (⟨bt197.1, bt197.2.1, bt197.2.2⟩ : S24)] : List (S24)))).bind fun t203 => (if t203 = true then ((q3 1).bind fun bt204 => ((q3 1).bind fun bt207 => ((q3 1).bind fun bt210 => ((q0 bt204.1 bt204.2.1 bt204.2.2 (⟨#[99, 111, 117, 110, 116]⟩ : ByteArray) true (([(⟨bt207.1, bt207.2.1, bt207.2.2⟩ : S24), (⟨0, 0, (⟨#[]⟩ : ByteArray)⟩ : S24), (⟨bt210.1, bt210.2.1, bt210.2.2⟩ : S24)] : List (S24)))).bind fun t216 => (if t216 = true then ((q3 3).bind fun bt217 => ((q3 1).bind fun bt220 => ((q3 1).bind fun bt223 => ((q0 bt217.1 bt217.2.1 bt217.2.2 (⟨#[99, 111, 117, 110, 116, 42]⟩ : ByteArray) false (([(⟨bt220.1, bt220.2.1, bt220.2.2⟩ : S24), (⟨0, 0, (⟨#[]⟩ : ByteArray)⟩ : S24), (⟨bt223.1, bt223.2.1, bt223.2.2⟩ : S24)] : List (S24)))).bind fun t229 => (if t229 = true then ((q3 5).bind fun bt230 => ((q1 (⟨#[97]⟩ : ByteArray)).bind fun bt233 => ((q3 5).bind fun bt236 => ((q0 bt230.1 bt230.2.1 bt230.2.2 (⟨#[109, 105, 110]⟩ : ByteArray) false (([(⟨bt233.1, bt233.2.1, bt233.2.2⟩ : S24), (⟨bt236.1, bt236.2.1, bt236.2.2⟩ : S24), (⟨0, 0, (⟨#[]⟩ : ByteArray)⟩ : S24)] : List (S24)))).bind fun t242 => (if t242 = true then ((q1 (⟨#[97]⟩ : ByteArray)).bind fun bt243 => ((q1 (⟨#[97]⟩ : ByteArray)).bind fun bt246 => ((q3 5).bind fun bt249 => ((q0 bt243.1 bt243.2.1 bt243.2.2 (⟨#[109, 97, 120]⟩ : ByteArray) false (([(⟨bt246.1, bt246.2.1, bt246.2.2⟩ : S24), (⟨bt249.1, bt249.2.1, bt249.2.2⟩ : S24), (⟨0, 0, (⟨#[]⟩ : ByteArray)⟩ : S24)] : List (S24)))).bind fun t255 => (if t255 = true then ((q1 (⟨#[49, 44, 98]⟩ : ByteArray)).bind fun bt256 => ((q1 (⟨#[98]⟩ : ByteArray)).bind fun bt259 => ((q3 1).bind fun bt262 => ((q0 bt256.1 bt256.2.1 bt256.2.2 (⟨#[103, 114, 111, 117, 112, 95, 99, 111, 110, 99, 97, 116]⟩ : ByteArray) false (([(⟨bt259.1, bt259.2.1, bt259.2.2⟩ : S24), (⟨0, 0, (⟨#[]⟩ : ByteArray)⟩ : S24), (⟨bt262.1, bt262.2.1, bt262.2.2⟩ : S24)] : List (S24)))).bind fun t268 => (some t268))))) else (some false)))))) else (some false)))))) else (some false)))))) else (some false)))))) else (some false)))))) else (some false))) = some r := H
        have A13 := am A130
        clear A130
        replace H := Option.bind_eq_some_iff.mp H
        obtain ⟨t190, A140, H⟩ := H
        replace H : (if t190 = true then ((q3 2).bind fun bt191 => ((q3 1).bind fun bt194 => ((q3 1).bind fun bt197 => ((q0 bt191.1 bt191.2.1 bt191.2.2 (⟨#[99, 111, 117, 110, 116]⟩ : ByteArray) false (([(⟨bt194.1, bt194.2.1, bt194.2.2⟩ : S24), (⟨0, 0, (⟨#[]⟩ : ByteArray)⟩ : S24), (⟨bt197.1, bt197.2.1, bt197.2.2⟩ : S24)] : List (S24)))).bind fun t203 => (if t203 = true then ((q3 1).bind fun bt204 => ((q3 1).bind fun bt207 => ((q3 1).bind fun bt210 => ((q0 bt204.1 bt204.2.1 bt204.2.2 (⟨#[99, 111, 117, 110, 116]⟩ : ByteArray) true (([(⟨bt207.1, bt207.2.1, bt207.2.2⟩ : S24), (⟨0, 0, (⟨#[]⟩ : ByteArray)⟩ : S24), (⟨bt210.1, bt210.2.1, bt210.2.2⟩ : S24)] : List (S24)))).bind fun t216 => (if t216 = true then ((q3 3).bind fun bt217 => ((q3 1).bind fun bt220 => ((q3 1).bind fun bt223 => ((q0 bt217.1 bt217.2.1 bt217.2.2 (⟨#[99, 111, 117, 110, 116, 42]⟩ : ByteArray) false (([(⟨bt220.1, bt220.2.1, bt220.2.2⟩ : S24), (⟨0, 0, (⟨#[]⟩ : ByteArray)⟩ : S24), (⟨bt223.1, bt223.2.1, bt223.2.2⟩ : S24)] : List (S24)))).bind fun t229 => (if t229 = true then ((q3 5).bind fun bt230 => ((q1 (⟨#[97]⟩ : ByteArray)).bind fun bt233 => ((q3 5).bind fun bt236 => ((q0 bt230.1 bt230.2.1 bt230.2.2 (⟨#[109, 105, 110]⟩ : ByteArray) false (([(⟨bt233.1, bt233.2.1, bt233.2.2⟩ : S24), (⟨bt236.1, bt236.2.1, bt236.2.2⟩ : S24), (⟨0, 0, (⟨#[]⟩ : ByteArray)⟩ : S24)] : List (S24)))).bind fun t242 => (if t242 = true then ((q1 (⟨#[97]⟩ : ByteArray)).bind fun bt243 => ((q1 (⟨#[97]⟩ : ByteArray)).bind fun bt246 => ((q3 5).bind fun bt249 => ((q0 bt243.1 bt243.2.1 bt243.2.2 (⟨#[109, 97, 120]⟩ : ByteArray) false (([(⟨bt246.1, bt246.2.1, bt246.2.2⟩ : S24), (⟨bt249.1, bt249.2.1, bt249.2.2⟩ : S24), (⟨0, 0, (⟨#[]⟩ : ByteArray)⟩ : S24)] : List (S24)))).bind fun t255 => (if t255 = true then ((q1 (⟨#[49, 44, 98]⟩ : ByteArray)).bind fun bt256 => ((q1 (⟨#[98]⟩ : ByteArray)).bind fun bt259 => ((q3 1).bind fun bt262 => ((q0 bt256.1 bt256.2.1 bt256.2.2 (⟨#[103, 114, 111, 117, 112, 95, 99, 111, 110, 99, 97, 116]⟩ : ByteArray) false (([(⟨bt259.1, bt259.2.1, bt259.2.2⟩ : S24), (⟨0, 0, (⟨#[]⟩ : ByteArray)⟩ : S24), (⟨bt262.1, bt262.2.1, bt262.2.2⟩ : S24)] : List (S24)))).bind fun t268 => (some t268))))) else (some false)))))) else (some false)))))) else (some false)))))) else (some false)))))) else (some false)))))) else (some false)) = some r := H
        have A14 := am A140
        clear A140
        by_cases c15 : t190 = true
        · subst c15
          have H1 : ((q3 2).bind fun bt191 => ((q3 1).bind fun bt194 => ((q3 1).bind fun bt197 => ((q0 bt191.1 bt191.2.1 bt191.2.2 (⟨#[99, 111, 117, 110, 116]⟩ : ByteArray) false (([(⟨bt194.1, bt194.2.1, bt194.2.2⟩ : S24), (⟨0, 0, (⟨#[]⟩ : ByteArray)⟩ : S24), (⟨bt197.1, bt197.2.1, bt197.2.2⟩ : S24)] : List (S24)))).bind fun t203 => (if t203 = true then ((q3 1).bind fun bt204 => ((q3 1).bind fun bt207 => ((q3 1).bind fun bt210 => ((q0 bt204.1 bt204.2.1 bt204.2.2 (⟨#[99, 111, 117, 110, 116]⟩ : ByteArray) true (([(⟨bt207.1, bt207.2.1, bt207.2.2⟩ : S24), (⟨0, 0, (⟨#[]⟩ : ByteArray)⟩ : S24), (⟨bt210.1, bt210.2.1, bt210.2.2⟩ : S24)] : List (S24)))).bind fun t216 => (if t216 = true then ((q3 3).bind fun bt217 => ((q3 1).bind fun bt220 => ((q3 1).bind fun bt223 => ((q0 bt217.1 bt217.2.1 bt217.2.2 (⟨#[99, 111, 117, 110, 116, 42]⟩ : ByteArray) false (([(⟨bt220.1, bt220.2.1, bt220.2.2⟩ : S24), (⟨0, 0, (⟨#[]⟩ : ByteArray)⟩ : S24), (⟨bt223.1, bt223.2.1, bt223.2.2⟩ : S24)] : List (S24)))).bind fun t229 => (if t229 = true then ((q3 5).bind fun bt230 => ((q1 (⟨#[97]⟩ : ByteArray)).bind fun bt233 => ((q3 5).bind fun bt236 => ((q0 bt230.1 bt230.2.1 bt230.2.2 (⟨#[109, 105, 110]⟩ : ByteArray) false (([(⟨bt233.1, bt233.2.1, bt233.2.2⟩ : S24), (⟨bt236.1, bt236.2.1, bt236.2.2⟩ : S24), (⟨0, 0, (⟨#[]⟩ : ByteArray)⟩ : S24)] : List (S24)))).bind fun t242 => (if t242 = true then ((q1 (⟨#[97]⟩ : ByteArray)).bind fun bt243 => ((q1 (⟨#[97]⟩ : ByteArray)).bind fun bt246 => ((q3 5).bind fun bt249 => ((q0 bt243.1 bt243.2.1 bt243.2.2 (⟨#[109, 97, 120]⟩ : ByteArray) false (([(⟨bt246.1, bt246.2.1, bt246.2.2⟩ : S24), (⟨bt249.1, bt249.2.1, bt249.2.2⟩ : S24), (⟨0, 0, (⟨#[]⟩ : ByteArray)⟩ : S24)] : List (S24)))).bind fun t255 => (if t255 = true then ((q1 (⟨#[49, 44, 98]⟩ : ByteArray)).bind fun bt256 => ((q1 (⟨#[98]⟩ : ByteArray)).bind fun bt259 => ((q3 1).bind fun bt262 => ((q0 bt256.1 bt256.2.1 bt256.2.2 (⟨#[103, 114, 111, 117, 112, 95, 99, 111, 110, 99, 97, 116]⟩ : ByteArray) false (([(⟨bt259.1, bt259.2.1, bt259.2.2⟩ : S24), (⟨0, 0, (⟨#[]⟩ : ByteArray)⟩ : S24), (⟨bt262.1, bt262.2.1, bt262.2.2⟩ : S24)] : List (S24)))).bind fun t268 => (some t268))))) else (some false)))))) else (some false)))))) else (some false)))))) else (some false)))))) else (some false)))))) = some r := by rw [if_pos rfl] at H; exact H
          clear H
          have H := H1
          clear H1
          replace H := Option.bind_eq_some_iff.mp H
          obtain ⟨⟨t191, t192, t193⟩, A160, H⟩ := H
          replace H : ((q3 1).bind fun bt194 => ((q3 1).bind fun bt197 => ((q0 t191 t192 t193 (⟨#[99, 111, 117, 110, 116]⟩ : ByteArray) false (([(⟨bt194.1, bt194.2.1, bt194.2.2⟩ : S24), (⟨0, 0, (⟨#[]⟩ : ByteArray)⟩ : S24), (⟨bt197.1, bt197.2.1, bt197.2.2⟩ : S24)] : List (S24)))).bind fun t203 => (if t203 = true then ((q3 1).bind fun bt204 => ((q3 1).bind fun bt207 => ((q3 1).bind fun bt210 => ((q0 bt204.1 bt204.2.1 bt204.2.2 (⟨#[99, 111, 117, 110, 116]⟩ : ByteArray) true (([(⟨bt207.1, bt207.2.1, bt207.2.2⟩ : S24), (⟨0, 0, (⟨#[]⟩ : ByteArray)⟩ : S24), (⟨bt210.1, bt210.2.1, bt210.2.2⟩ : S24)] : List (S24)))).bind fun t216 => (if t216 = true then ((q3 3).bind fun bt217 => ((q3 1).bind fun bt220 => ((q3 1).bind fun bt223 => ((q0 bt217.1 bt217.2.1 bt217.2.2 (⟨#[99, 111, 117, 110, 116, 42]⟩ : ByteArray) false (([(⟨bt220.1, bt220.2.1, bt220.2.2⟩ : S24), (⟨0, 0, (⟨#[]⟩ : ByteArray)⟩ : S24), (⟨bt223.1, bt223.2.1, bt223.2.2⟩ : S24)] : List (S24)))).bind fun t229 => (if t229 = true then ((q3 5).bind fun bt230 => ((q1 (⟨#[97]⟩ : ByteArray)).bind fun bt233 => ((q3 5).bind fun bt236 => ((q0 bt230.1 bt230.2.1 bt230.2.2 (⟨#[109, 105, 110]⟩ : ByteArray) false (([(⟨bt233.1, bt233.2.1, bt233.2.2⟩ : S24), (⟨bt236.1, bt236.2.1, bt236.2.2⟩ : S24), (⟨0, 0, (⟨#[]⟩ : ByteArray)⟩ : S24)] : List (S24)))).bind fun t242 => (if t242 = true then ((q1 (⟨#[97]⟩ : ByteArray)).bind fun bt243 => ((q1 (⟨#[97]⟩ : ByteArray)).bind fun bt246 => ((q3 5).bind fun bt249 => ((q0 bt243.1 bt243.2.1 bt243.2.2 (⟨#[109, 97, 120]⟩ : ByteArray) false (([(⟨bt246.1, bt246.2.1, bt246.2.2⟩ : S24), (⟨bt249.1, bt249.2.1, bt249.2.2⟩ : S24), (⟨0, 0, (⟨#[]⟩ : ByteArray)⟩ : S24)] : List (S24)))).bind fun t255 => (if t255 = true then ((q1 (⟨#[49, 44, 98]⟩ : ByteArray)).bind fun bt256 => ((q1 (⟨#[98]⟩ : ByteArray)).bind fun bt259 => ((q3 1).bind fun bt262 => ((q0 bt256.1 bt256.2.1 bt256.2.2 (⟨#[103, 114, 111, 117, 112, 95, 99, 111, 110, 99, 97, 116]⟩ : ByteArray) false (([(⟨bt259.1, bt259.2.1, bt259.2.2⟩ : S24), (⟨0, 0, (⟨#[]⟩ : ByteArray)⟩ : S24), (⟨bt262.1, bt262.2.1, bt262.2.2⟩ : S24)] : List (S24)))).bind fun t268 => (some t268))))) else (some false)))))) else (some false)))))) else (some false)))))) else (some false)))))) else (some false))))) = some r := H
          have A16 := am A160
          clear A160
          replace H := Option.bind_eq_some_iff.mp H
          obtain ⟨⟨t194, t195, t196⟩, A170, H⟩ := H
          replace H : ((q3 1).bind fun bt197 => ((q0 t191 t192 t193 (⟨#[99, 111, 117, 110, 116]⟩ : ByteArray) false (([(⟨t194, t195, t196⟩ : S24), (⟨0, 0, (⟨#[]⟩ : ByteArray)⟩ : S24), (⟨bt197.1, bt197.2.1, bt197.2.2⟩ : S24)] : List (S24)))).bind fun t203 => (if t203 = true then ((q3 1).bind fun bt204 => ((q3 1).bind fun bt207 => ((q3 1).bind fun bt210 => ((q0 bt204.1 bt204.2.1 bt204.2.2 (⟨#[99, 111, 117, 110, 116]⟩ : ByteArray) true (([(⟨bt207.1, bt207.2.1, bt207.2.2⟩ : S24), (⟨0, 0, (⟨#[]⟩ : ByteArray)⟩ : S24), (⟨bt210.1, bt210.2.1, bt210.2.2⟩ : S24)] : List (S24)))).bind fun t216 => (if t216 = true then ((q3 3).bind fun bt217 => ((q3 1).bind fun bt220 => ((q3 1).bind fun bt223 => ((q0 bt217.1 bt217.2.1 bt217.2.2 (⟨#[99, 111, 117, 110, 116, 42]⟩ : ByteArray) false (([(⟨bt220.1, bt220.2.1, bt220.2.2⟩ : S24), (⟨0, 0, (⟨#[]⟩ : ByteArray)⟩ : S24), (⟨bt223.1, bt223.2.1, bt223.2.2⟩ : S24)] : List (S24)))).bind fun t229 => (if t229 = true then ((q3 5).bind fun bt230 => ((q1 (⟨#[97]⟩ : ByteArray)).bind fun bt233 => ((q3 5).bind fun bt236 => ((q0 bt230.1 bt230.2.1 bt230.2.2 (⟨#[109, 105, 110]⟩ : ByteArray) false (([(⟨bt233.1, bt233.2.1, bt233.2.2⟩ : S24), (⟨bt236.1, bt236.2.1, bt236.2.2⟩ : S24), (⟨0, 0, (⟨#[]⟩ : ByteArray)⟩ : S24)] : List (S24)))).bind fun t242 => (if t242 = true then ((q1 (⟨#[97]⟩ : ByteArray)).bind fun bt243 => ((q1 (⟨#[97]⟩ : ByteArray)).bind fun bt246 => ((q3 5).bind fun bt249 => ((q0 bt243.1 bt243.2.1 bt243.2.2 (⟨#[109, 97, 120]⟩ : ByteArray) false (([(⟨bt246.1, bt246.2.1, bt246.2.2⟩ : S24), (⟨bt249.1, bt249.2.1, bt249.2.2⟩ : S24), (⟨0, 0, (⟨#[]⟩ : ByteArray)⟩ : S24)] : List (S24)))).bind fun t255 => (if t255 = true then ((q1 (⟨#[49, 44, 98]⟩ : ByteArray)).bind fun bt256 => ((q1 (⟨#[98]⟩ : ByteArray)).bind fun bt259 => ((q3 1).bind fun bt262 => ((q0 bt256.1 bt256.2.1 bt256.2.2 (⟨#[103, 114, 111, 117, 112, 95, 99, 111, 110, 99, 97, 116]⟩ : ByteArray) false (([(⟨bt259.1, bt259.2.1, bt259.2.2⟩ : S24), (⟨0, 0, (⟨#[]⟩ : ByteArray)⟩ : S24), (⟨bt262.1, bt262.2.1, bt262.2.2⟩ : S24)] : List (S24)))).bind fun t268 => (some t268))))) else (some false)))))) else (some false)))))) else (some false)))))) else (some false)))))) else (some false)))) = some r := H
          have A17 := am A170
          clear A170
          replace H := Option.bind_eq_some_iff.mp H
          obtain ⟨⟨t197, t198, t199⟩, A180, H⟩ := H
          replace H : ((q0 t191 t192 t193 (⟨#[99, 111, 117, 110, 116]⟩ : ByteArray) false (([(⟨t194, t195, t196⟩ : S24), (⟨0, 0, (⟨#[]⟩ : ByteArray)⟩ : S24), (⟨t197, t198, t199⟩ : S24)] : List (S24)))).bind fun t203 => (if t203 = true then ((q3 1).bind fun bt204 => ((q3 1).bind fun bt207 => ((q3 1).bind fun bt210 => ((q0 bt204.1 bt204.2.1 bt204.2.2 (⟨#[99, 111, 117, 110, 116]⟩ : ByteArray) true (([(⟨bt207.1, bt207.2.1, bt207.2.2⟩ : S24), (⟨0, 0, (⟨#[]⟩ : ByteArray)⟩ : S24), (⟨bt210.1, bt210.2.1, bt210.2.2⟩ : S24)] : List (S24)))).bind fun t216 => (if t216 = true then ((q3 3).bind fun bt217 => ((q3 1).bind fun bt220 => ((q3 1).bind fun bt223 => ((q0 bt217.1 bt217.2.1 bt217.2.2 (⟨#[99, 111, 117, 110, 116, 42]⟩ : ByteArray) false (([(⟨bt220.1, bt220.2.1, bt220.2.2⟩ : S24), (⟨0, 0, (⟨#[]⟩ : ByteArray)⟩ : S24), (⟨bt223.1, bt223.2.1, bt223.2.2⟩ : S24)] : List (S24)))).bind fun t229 => (if t229 = true then ((q3 5).bind fun bt230 => ((q1 (⟨#[97]⟩ : ByteArray)).bind fun bt233 => ((q3 5).bind fun bt236 => ((q0 bt230.1 bt230.2.1 bt230.2.2 (⟨#[109, 105, 110]⟩ : ByteArray) false (([(⟨bt233.1, bt233.2.1, bt233.2.2⟩ : S24), (⟨bt236.1, bt236.2.1, bt236.2.2⟩ : S24), (⟨0, 0, (⟨#[]⟩ : ByteArray)⟩ : S24)] : List (S24)))).bind fun t242 => (if t242 = true then ((q1 (⟨#[97]⟩ : ByteArray)).bind fun bt243 => ((q1 (⟨#[97]⟩ : ByteArray)).bind fun bt246 => ((q3 5).bind fun bt249 => ((q0 bt243.1 bt243.2.1 bt243.2.2 (⟨#[109, 97, 120]⟩ : ByteArray) false (([(⟨bt246.1, bt246.2.1, bt246.2.2⟩ : S24), (⟨bt249.1, bt249.2.1, bt249.2.2⟩ : S24), (⟨0, 0, (⟨#[]⟩ : ByteArray)⟩ : S24)] : List (S24)))).bind fun t255 => (if t255 = true then ((q1 (⟨#[49, 44, 98]⟩ : ByteArray)).bind fun bt256 => ((q1 (⟨#[98]⟩ : ByteArray)).bind fun bt259 => ((q3 1).bind fun bt262 => ((q0 bt256.1 bt256.2.1 bt256.2.2 (⟨#[103, 114, 111, 117, 112, 95, 99, 111, 110, 99, 97, 116]⟩ : ByteArray) false (([(⟨bt259.1, bt259.2.1, bt259.2.2⟩ : S24), (⟨0, 0, (⟨#[]⟩ : ByteArray)⟩ : S24), (⟨bt262.1, bt262.2.1, bt262.2.2⟩ : S24)] : List (S24)))).bind fun t268 => (some t268))))) else (some false)))))) else (some false)))))) else (some false)))))) else (some false)))))) else (some false))) = some r := H
          have A18 := am A180
          clear A180
          obtain ⟨y200, hy200⟩ : ∃ y_ : List (S24), y_ = (([(⟨t194, t195, t196⟩ : S24), (⟨0, 0, (⟨#[]⟩ : ByteArray)⟩ : S24), (⟨t197, t198, t199⟩ : S24)] : List (S24))) := ⟨_, rfl⟩
          replace H : ((q0 t191 t192 t193 (⟨#[99, 111, 117, 110, 116]⟩ : ByteArray) false y200).bind fun t203 => (if t203 = true then ((q3 1).bind fun bt204 => ((q3 1).bind fun bt207 => ((q3 1).bind fun bt210 => ((q0 bt204.1 bt204.2.1 bt204.2.2 (⟨#[99, 111, 117, 110, 116]⟩ : ByteArray) true (([(⟨bt207.1, bt207.2.1, bt207.2.2⟩ : S24), (⟨0, 0, (⟨#[]⟩ : ByteArray)⟩ : S24), (⟨bt210.1, bt210.2.1, bt210.2.2⟩ : S24)] : List (S24)))).bind fun t216 => (if t216 = true then ((q3 3).bind fun bt217 => ((q3 1).bind fun bt220 => ((q3 1).bind fun bt223 => ((q0 bt217.1 bt217.2.1 bt217.2.2 (⟨#[99, 111, 117, 110, 116, 42]⟩ : ByteArray) false (([(⟨bt220.1, bt220.2.1, bt220.2.2⟩ : S24), (⟨0, 0, (⟨#[]⟩ : ByteArray)⟩ : S24), (⟨bt223.1, bt223.2.1, bt223.2.2⟩ : S24)] : List (S24)))).bind fun t229 => (if t229 = true then ((q3 5).bind fun bt230 => ((q1 (⟨#[97]⟩ : ByteArray)).bind fun bt233 => ((q3 5).bind fun bt236 => ((q0 bt230.1 bt230.2.1 bt230.2.2 (⟨#[109, 105, 110]⟩ : ByteArray) false (([(⟨bt233.1, bt233.2.1, bt233.2.2⟩ : S24), (⟨bt236.1, bt236.2.1, bt236.2.2⟩ : S24), (⟨0, 0, (⟨#[]⟩ : ByteArray)⟩ : S24)] : List (S24)))).bind fun t242 => (if t242 = true then ((q1 (⟨#[97]⟩ : ByteArray)).bind fun bt243 => ((q1 (⟨#[97]⟩ : ByteArray)).bind fun bt246 => ((q3 5).bind fun bt249 => ((q0 bt243.1 bt243.2.1 bt243.2.2 (⟨#[109, 97, 120]⟩ : ByteArray) false (([(⟨bt246.1, bt246.2.1, bt246.2.2⟩ : S24), (⟨bt249.1, bt249.2.1, bt249.2.2⟩ : S24), (⟨0, 0, (⟨#[]⟩ : ByteArray)⟩ : S24)] : List (S24)))).bind fun t255 => (if t255 = true then ((q1 (⟨#[49, 44, 98]⟩ : ByteArray)).bind fun bt256 => ((q1 (⟨#[98]⟩ : ByteArray)).bind fun bt259 => ((q3 1).bind fun bt262 => ((q0 bt256.1 bt256.2.1 bt256.2.2 (⟨#[103, 114, 111, 117, 112, 95, 99, 111, 110, 99, 97, 116]⟩ : ByteArray) false (([(⟨bt259.1, bt259.2.1, bt259.2.2⟩ : S24), (⟨0, 0, (⟨#[]⟩ : ByteArray)⟩ : S24), (⟨bt262.1, bt262.2.1, bt262.2.2⟩ : S24)] : List (S24)))).bind fun t268 => (some t268))))) else (some false)))))) else (some false)))))) else (some false)))))) else (some false)))))) else (some false))) = some r := by first | (rw [hy200]; with_reducible exact H) | (have H2_ := (Option.bind_some _ _).symm.trans H; rw [hy200]; with_reducible exact H2_) | (have H2_ := (Option.bind_some _ _).symm.trans H; with_reducible exact H2_) | with_reducible exact H | (rw [hy200]; exact H) | exact H
          have Ny200 := am hy200
          clear hy200
          replace H := Option.bind_eq_some_iff.mp H
          obtain ⟨t203, A190, H⟩ := H
          replace H : (if t203 = true then ((q3 1).bind fun bt204 => ((q3 1).bind fun bt207 => ((q3 1).bind fun bt210 => ((q0 bt204.1 bt204.2.1 bt204.2.2 (⟨#[99, 111, 117, 110, 116]⟩ : ByteArray) true (([(⟨bt207.1, bt207.2.1, bt207.2.2⟩ : S24), (⟨0, 0, (⟨#[]⟩ : ByteArray)⟩ : S24), (⟨bt210.1, bt210.2.1, bt210.2.2⟩ : S24)] : List (S24)))).bind fun t216 => (if t216 = true then ((q3 3).bind fun bt217 => ((q3 1).bind fun bt220 => ((q3 1).bind fun bt223 => ((q0 bt217.1 bt217.2.1 bt217.2.2 (⟨#[99, 111, 117, 110, 116, 42]⟩ : ByteArray) false (([(⟨bt220.1, bt220.2.1, bt220.2.2⟩ : S24), (⟨0, 0, (⟨#[]⟩ : ByteArray)⟩ : S24), (⟨bt223.1, bt223.2.1, bt223.2.2⟩ : S24)] : List (S24)))).bind fun t229 => (if t229 = true then ((q3 5).bind fun bt230 => ((q1 (⟨#[97]⟩ : ByteArray)).bind fun bt233 => ((q3 5).bind fun bt236 => ((q0 bt230.1 bt230.2.1 bt230.2.2 (⟨#[109, 105, 110]⟩ : ByteArray) false (([(⟨bt233.1, bt233.2.1, bt233.2.2⟩ : S24), (⟨bt236.1, bt236.2.1, bt236.2.2⟩ : S24), (⟨0, 0, (⟨#[]⟩ : ByteArray)⟩ : S24)] : List (S24)))).bind fun t242 => (if t242 = true then ((q1 (⟨#[97]⟩ : ByteArray)).bind fun bt243 => ((q1 (⟨#[97]⟩ : ByteArray)).bind fun bt246 => ((q3 5).bind fun bt249 => ((q0 bt243.1 bt243.2.1 bt243.2.2 (⟨#[109, 97, 120]⟩ : ByteArray) false (([(⟨bt246.1, bt246.2.1, bt246.2.2⟩ : S24), (⟨bt249.1, bt249.2.1, bt249.2.2⟩ : S24), (⟨0, 0, (⟨#[]⟩ : ByteArray)⟩ : S24)] : List (S24)))).bind fun t255 => (if t255 = true then ((q1 (⟨#[49, 44, 98]⟩ : ByteArray)).bind fun bt256 => ((q1 (⟨#[98]⟩ : ByteArray)).bind fun bt259 => ((q3 1).bind fun bt262 => ((q0 bt256.1 bt256.2.1 bt256.2.2 (⟨#[103, 114, 111, 117, 112, 95, 99, 111, 110, 99, 97, 116]⟩ : ByteArray) false (([(⟨bt259.1, bt259.2.1, bt259.2.2⟩ : S24), (⟨0, 0, (⟨#[]⟩ : ByteArray)⟩ : S24), (⟨bt262.1, bt262.2.1, bt262.2.2⟩ : S24)] : List (S24)))).bind fun t268 => (some t268))))) else (some false)))))) else (some false)))))) else (some false)))))) else (some false)))))) else (some false)) = some r := H
          have A19 := am A190
          clear A190
          by_cases c20 : t203 = true
          · subst c20
            have H1 : ((q3 1).bind fun bt204 => ((q3 1).bind fun bt207 => ((q3 1).bind fun bt210 => ((q0 bt204.1 bt204.2.1 bt204.2.2 (⟨#[99, 111, 117, 110, 116]⟩ : ByteArray) true (([(⟨bt207.1, bt207.2.1, bt207.2.2⟩ : S24), (⟨0, 0, (⟨#[]⟩ : ByteArray)⟩ : S24), (⟨bt210.1, bt210.2.1, bt210.2.2⟩ : S24)] : List (S24)))).bind fun t216 => (if t216 = true then ((q3 3).bind fun bt217 => ((q3 1).bind fun bt220 => ((q3 1).bind fun bt223 => ((q0 bt217.1 bt217.2.1 bt217.2.2 (⟨#[99, 111, 117, 110, 116, 42]⟩ : ByteArray) false (([(⟨bt220.1, bt220.2.1, bt220.2.2⟩ : S24), (⟨0, 0, (⟨#[]⟩ : ByteArray)⟩ : S24), (⟨bt223.1, bt223.2.1, bt223.2.2⟩ : S24)] : List (S24)))).bind fun t229 => (if t229 = true then ((q3 5).bind fun bt230 => ((q1 (⟨#[97]⟩ : ByteArray)).bind fun bt233 => ((q3 5).bind fun bt236 => ((q0 bt230.1 bt230.2.1 bt230.2.2 (⟨#[109, 105, 110]⟩ : ByteArray) false (([(⟨bt233.1, bt233.2.1, bt233.2.2⟩ : S24), (⟨bt236.1, bt236.2.1, bt236.2.2⟩ : S24), (⟨0, 0, (⟨#[]⟩ : ByteArray)⟩ : S24)] : List (S24)))).bind fun t242 => (if t242 = true then ((q1 (⟨#[97]⟩ : ByteArray)).bind fun bt243 => ((q1 (⟨#[97]⟩ : ByteArray)).bind fun bt246 => ((q3 5).bind fun bt249 => ((q0 bt243.1 bt243.2.1 bt243.2.2 (⟨#[109, 97, 120]⟩ : ByteArray) false (([(⟨bt246.1, bt246.2.1, bt246.2.2⟩ : S24), (⟨bt249.1, bt249.2.1, bt249.2.2⟩ : S24), (⟨0, 0, (⟨#[]⟩ : ByteArray)⟩ : S24)] : List (S24)))).bind fun t255 => (if t255 = true then ((q1 (⟨#[49, 44, 98]⟩ : ByteArray)).bind fun bt256 => ((q1 (⟨#[98]⟩ : ByteArray)).bind fun bt259 => ((q3 1).bind fun bt262 => ((q0 bt256.1 bt256.2.1 bt256.2.2 (⟨#[103, 114, 111, 117, 112, 95, 99, 111, 110, 99, 97, 116]⟩ : ByteArray) false (([(⟨bt259.1, bt259.2.1, bt259.2.2⟩ : S24), (⟨0, 0, (⟨#[]⟩ : ByteArray)⟩ : S24), (⟨bt262.1, bt262.2.1, bt262.2.2⟩ : S24)] : List (S24)))).bind fun t268 => (some t268))))) else (some false)))))) else (some false)))))) else (some false)))))) else (some false)))))) = some r := by rw [if_pos rfl] at H; exact H
            clear H
            have H := H1
            clear H1
            replace H := Option.bind_eq_some_iff.mp H
            obtain ⟨⟨t204, t205, t206⟩, A210, H⟩ := H
            replace H : ((q3 1).bind fun bt207 => ((q3 1).bind fun bt210 => ((q0 t204 t205 t206 (⟨#[99, 111, 117, 110, 116]⟩ : ByteArray) true (([(⟨bt207.1, bt207.2.1, bt207.2.2⟩ : S24), (⟨0, 0, (⟨#[]⟩ : ByteArray)⟩ : S24), (⟨bt210.1, bt210.2.1, bt210.2.2⟩ : S24)] : List (S24)))).bind fun t216 => (if t216 = true then ((q3 3).bind fun bt217 => ((q3 1).bind fun bt220 => ((q3 1).bind fun bt223 => ((q0 bt217.1 bt217.2.1 bt217.2.2 (⟨#[99, 111, 117, 110, 116, 42]⟩ : ByteArray) false (([(⟨bt220.1, bt220.2.1, bt220.2.2⟩ : S24), (⟨0, 0, (⟨#[]⟩ : ByteArray)⟩ : S24), (⟨bt223.1, bt223.2.1, bt223.2.2⟩ : S24)] : List (S24)))).bind fun t229 => (if t229 = true then ((q3 5).bind fun bt230 => ((q1 (⟨#[97]⟩ : ByteArray)).bind fun bt233 => ((q3 5).bind fun bt236 => ((q0 bt230.1 bt230.2.1 bt230.2.2 (⟨#[109, 105, 110]⟩ : ByteArray) false (([(⟨bt233.1, bt233.2.1, bt233.2.2⟩ : S24), (⟨bt236.1, bt236.2.1, bt236.2.2⟩ : S24), (⟨0, 0, (⟨#[]⟩ : ByteArray)⟩ : S24)] : List (S24)))).bind fun t242 => (if t242 = true then ((q1 (⟨#[97]⟩ : ByteArray)).bind fun bt243 => ((q1 (⟨#[97]⟩ : ByteArray)).bind fun bt246 => ((q3 5).bind fun bt249 => ((q0 bt243.1 bt243.2.1 bt243.2.2 (⟨#[109, 97, 120]⟩ : ByteArray) false (([(⟨bt246.1, bt246.2.1, bt246.2.2⟩ : S24), (⟨bt249.1, bt249.2.1, bt249.2.2⟩ : S24), (⟨0, 0, (⟨#[]⟩ : ByteArray)⟩ : S24)] : List (S24)))).bind fun t255 => (if t255 = true then ((q1 (⟨#[49, 44, 98]⟩ : ByteArray)).bind fun bt256 => ((q1 (⟨#[98]⟩ : ByteArray)).bind fun bt259 => ((q3 1).bind fun bt262 => ((q0 bt256.1 bt256.2.1 bt256.2.2 (⟨#[103, 114, 111, 117, 112, 95, 99, 111, 110, 99, 97, 116]⟩ : ByteArray) false (([(⟨bt259.1, bt259.2.1, bt259.2.2⟩ : S24), (⟨0, 0, (⟨#[]⟩ : ByteArray)⟩ : S24), (⟨bt262.1, bt262.2.1, bt262.2.2⟩ : S24)] : List (S24)))).bind fun t268 => (some t268))))) else (some false)))))) else (some false)))))) else (some false)))))) else (some false))))) = some r := H
            have A21 := am A210
            clear A210
            replace H := Option.bind_eq_some_iff.mp H
            obtain ⟨⟨t207, t208, t209⟩, A220, H⟩ := H
            replace H : ((q3 1).bind fun bt210 => ((q0 t204 t205 t206 (⟨#[99, 111, 117, 110, 116]⟩ : ByteArray) true (([(⟨t207, t208, t209⟩ : S24), (⟨0, 0, (⟨#[]⟩ : ByteArray)⟩ : S24), (⟨bt210.1, bt210.2.1, bt210.2.2⟩ : S24)] : List (S24)))).bind fun t216 => (if t216 = true then ((q3 3).bind fun bt217 => ((q3 1).bind fun bt220 => ((q3 1).bind fun bt223 => ((q0 bt217.1 bt217.2.1 bt217.2.2 (⟨#[99, 111, 117, 110, 116, 42]⟩ : ByteArray) false (([(⟨bt220.1, bt220.2.1, bt220.2.2⟩ : S24), (⟨0, 0, (⟨#[]⟩ : ByteArray)⟩ : S24), (⟨bt223.1, bt223.2.1, bt223.2.2⟩ : S24)] : List (S24)))).bind fun t229 => (if t229 = true then ((q3 5).bind fun bt230 => ((q1 (⟨#[97]⟩ : ByteArray)).bind fun bt233 => ((q3 5).bind fun bt236 => ((q0 bt230.1 bt230.2.1 bt230.2.2 (⟨#[109, 105, 110]⟩ : ByteArray) false (([(⟨bt233.1, bt233.2.1, bt233.2.2⟩ : S24), (⟨bt236.1, bt236.2.1, bt236.2.2⟩ : S24), (⟨0, 0, (⟨#[]⟩ : ByteArray)⟩ : S24)] : List (S24)))).bind fun t242 => (if t242 = true then ((q1 (⟨#[97]⟩ : ByteArray)).bind fun bt243 => ((q1 (⟨#[97]⟩ : ByteArray)).bind fun bt246 => ((q3 5).bind fun bt249 => ((q0 bt243.1 bt243.2.1 bt243.2.2 (⟨#[109, 97, 120]⟩ : ByteArray) false (([(⟨bt246.1, bt246.2.1, bt246.2.2⟩ : S24), (⟨bt249.1, bt249.2.1, bt249.2.2⟩ : S24), (⟨0, 0, (⟨#[]⟩ : ByteArray)⟩ : S24)] : List (S24)))).bind fun t255 => (if t255 = true then ((q1 (⟨#[49, 44, 98]⟩ : ByteArray)).bind fun bt256 => ((q1 (⟨#[98]⟩ : ByteArray)).bind fun bt259 => ((q3 1).bind fun bt262 => ((q0 bt256.1 bt256.2.1 bt256.2.2 (⟨#[103, 114, 111, 117, 112, 95, 99, 111, 110, 99, 97, 116]⟩ : ByteArray) false (([(⟨bt259.1, bt259.2.1, bt259.2.2⟩ : S24), (⟨0, 0, (⟨#[]⟩ : ByteArray)⟩ : S24), (⟨bt262.1, bt262.2.1, bt262.2.2⟩ : S24)] : List (S24)))).bind fun t268 => (some t268))))) else (some false)))))) else (some false)))))) else (some false)))))) else (some false)))) = some r := H
            have A22 := am A220
            clear A220
            replace H := Option.bind_eq_some_iff.mp H
            obtain ⟨⟨t210, t211, t212⟩, A230, H⟩ := H
            replace H : ((q0 t204 t205 t206 (⟨#[99, 111, 117, 110, 116]⟩ : ByteArray) true (([(⟨t207, t208, t209⟩ : S24), (⟨0, 0, (⟨#[]⟩ : ByteArray)⟩ : S24), (⟨t210, t211, t212⟩ : S24)] : List (S24)))).bind fun t216 => (if t216 = true then ((q3 3).bind fun bt217 => ((q3 1).bind fun bt220 => ((q3 1).bind fun bt223 => ((q0 bt217.1 bt217.2.1 bt217.2.2 (⟨#[99, 111, 117, 110, 116, 42]⟩ : ByteArray) false (([(⟨bt220.1, bt220.2.1, bt220.2.2⟩ : S24), (⟨0, 0, (⟨#[]⟩ : ByteArray)⟩ : S24), (⟨bt223.1, bt223.2.1, bt223.2.2⟩ : S24)] : List (S24)))).bind fun t229 => (if t229 = true then ((q3 5).bind fun bt230 => ((q1 (⟨#[97]⟩ : ByteArray)).bind fun bt233 => ((q3 5).bind fun bt236 => ((q0 bt230.1 bt230.2.1 bt230.2.2 (⟨#[109, 105, 110]⟩ : ByteArray) false (([(⟨bt233.1, bt233.2.1, bt233.2.2⟩ : S24), (⟨bt236.1, bt236.2.1, bt236.2.2⟩ : S24), (⟨0, 0, (⟨#[]⟩ : ByteArray)⟩ : S24)] : List (S24)))).bind fun t242 => (if t242 = true then ((q1 (⟨#[97]⟩ : ByteArray)).bind fun bt243 => ((q1 (⟨#[97]⟩ : ByteArray)).bind fun bt246 => ((q3 5).bind fun bt249 => ((q0 bt243.1 bt243.2.1 bt243.2.2 (⟨#[109, 97, 120]⟩ : ByteArray) false (([(⟨bt246.1, bt246.2.1, bt246.2.2⟩ : S24), (⟨bt249.1, bt249.2.1, bt249.2.2⟩ : S24), (⟨0, 0, (⟨#[]⟩ : ByteArray)⟩ : S24)] : List (S24)))).bind fun t255 => (if t255 = true then ((q1 (⟨#[49, 44, 98]⟩ : ByteArray)).bind fun bt256 => ((q1 (⟨#[98]⟩ : ByteArray)).bind fun bt259 => ((q3 1).bind fun bt262 => ((q0 bt256.1 bt256.2.1 bt256.2.2 (⟨#[103, 114, 111, 117, 112, 95, 99, 111, 110, 99, 97, 116]⟩ : ByteArray) false (([(⟨bt259.1, bt259.2.1, bt259.2.2⟩ : S24), (⟨0, 0, (⟨#[]⟩ : ByteArray)⟩ : S24), (⟨bt262.1, bt262.2.1, bt262.2.2⟩ : S24)] : List (S24)))).bind fun t268 => (some t268))))) else (some false)))))) else (some false)))))) else (some false)))))) else (some false))) = some r := H
            have A23 := am A230
            clear A230
            obtain ⟨y213, hy213⟩ : ∃ y_ : List (S24), y_ = (([(⟨t207, t208, t209⟩ : S24), (⟨0, 0, (⟨#[]⟩ : ByteArray)⟩ : S24), (⟨t210, t211, t212⟩ : S24)] : List (S24))) := ⟨_, rfl⟩
            replace H : ((q0 t204 t205 t206 (⟨#[99, 111, 117, 110, 116]⟩ : ByteArray) true y213).bind fun t216 => (if t216 = true then ((q3 3).bind fun bt217 => ((q3 1).bind fun bt220 => ((q3 1).bind fun bt223 => ((q0 bt217.1 bt217.2.1 bt217.2.2 (⟨#[99, 111, 117, 110, 116, 42]⟩ : ByteArray) false (([(⟨bt220.1, bt220.2.1, bt220.2.2⟩ : S24), (⟨0, 0, (⟨#[]⟩ : ByteArray)⟩ : S24), (⟨bt223.1, bt223.2.1, bt223.2.2⟩ : S24)] : List (S24)))).bind fun t229 => (if t229 = true then ((q3 5).bind fun bt230 => ((q1 (⟨#[97]⟩ : ByteArray)).bind fun bt233 => ((q3 5).bind fun bt236 => ((q0 bt230.1 bt230.2.1 bt230.2.2 (⟨#[109, 105, 110]⟩ : ByteArray) false (([(⟨bt233.1, bt233.2.1, bt233.2.2⟩ : S24), (⟨bt236.1, bt236.2.1, bt236.2.2⟩ : S24), (⟨0, 0, (⟨#[]⟩ : ByteArray)⟩ : S24)] : List (S24)))).bind fun t242 => (if t242 = true then ((q1 (⟨#[97]⟩ : ByteArray)).bind fun bt243 => ((q1 (⟨#[97]⟩ : ByteArray)).bind fun bt246 => ((q3 5).bind fun bt249 => ((q0 bt243.1 bt243.2.1 bt243.2.2 (⟨#[109, 97, 120]⟩ : ByteArray) false (([(⟨bt246.1, bt246.2.1, bt246.2.2⟩ : S24), (⟨bt249.1, bt249.2.1, bt249.2.2⟩ : S24), (⟨0, 0, (⟨#[]⟩ : ByteArray)⟩ : S24)] : List (S24)))).bind fun t255 => (if t255 = true then ((q1 (⟨#[49, 44, 98]⟩ : ByteArray)).bind fun bt256 => ((q1 (⟨#[98]⟩ : ByteArray)).bind fun bt259 => ((q3 1).bind fun bt262 => ((q0 bt256.1 bt256.2.1 bt256.2.2 (⟨#[103, 114, 111, 117, 112, 95, 99, 111, 110, 99, 97, 116]⟩ : ByteArray) false (([(⟨bt259.1, bt259.2.1, bt259.2.2⟩ : S24), (⟨0, 0, (⟨#[]⟩ : ByteArray)⟩ : S24), (⟨bt262.1, bt262.2.1, bt262.2.2⟩ : S24)] : List (S24)))).bind fun t268 => (some t268))))) else (some false)))))) else (some false)))))) else (some false)))))) else (some false))) = some r := by first | (rw [hy213]; with_reducible exact H) | (have H2_ := (Option.bind_some _ _).symm.trans H; rw [hy213]; with_reducible exact H2_) | (have H2_ := (Option.bind_some _ _).symm.trans H; with_reducible exact H2_) | with_reducible exact H | (rw [hy213]; exact H) | exact H
            have Ny213 := am hy213
            clear hy213
            replace H := Option.bind_eq_some_iff.mp H
            obtain ⟨t216, A240, H⟩ := H
            replace H : (if t216 = true then ((q3 3).bind fun bt217 => ((q3 1).bind fun bt220 => ((q3 1).bind fun bt223 => ((q0 bt217.1 bt217.2.1 bt217.2.2 (⟨#[99, 111, 117, 110, 116, 42]⟩ : ByteArray) false (([(⟨bt220.1, bt220.2.1, bt220.2.2⟩ : S24), (⟨0, 0, (⟨#[]⟩ : ByteArray)⟩ : S24), (⟨bt223.1, bt223.2.1, bt223.2.2⟩ : S24)] : List (S24)))).bind fun t229 => (if t229 = true then ((q3 5).bind fun bt230 => ((q1 (⟨#[97]⟩ : ByteArray)).bind fun bt233 => ((q3 5).bind fun bt236 => ((q0 bt230.1 bt230.2.1 bt230.2.2 (⟨#[109, 105, 110]⟩ : ByteArray) false (([(⟨bt233.1, bt233.2.1, bt233.2.2⟩ : S24), (⟨bt236.1, bt236.2.1, bt236.2.2⟩ : S24), (⟨0, 0, (⟨#[]⟩ : ByteArray)⟩ : S24)] : List (S24)))).bind fun t242 => (if t242 = true then ((q1 (⟨#[97]⟩ : ByteArray)).bind fun bt243 => ((q1 (⟨#[97]⟩ : ByteArray)).bind fun bt246 => ((q3 5).bind fun bt249 => ((q0 bt243.1 bt243.2.1 bt243.2.2 (⟨#[109, 97, 120]⟩ : ByteArray) false (([(⟨bt246.1, bt246.2.1, bt246.2.2⟩ : S24), (⟨bt249.1, bt249.2.1, bt249.2.2⟩ : S24), (⟨0, 0, (⟨#[]⟩ : ByteArray)⟩ : S24)] : List (S24)))).bind fun t255 => (if t255 = true then ((q1 (⟨#[49, 44, 98]⟩ : ByteArray)).bind fun bt256 => ((q1 (⟨#[98]⟩ : ByteArray)).bind fun bt259 => ((q3 1).bind fun bt262 => ((q0 bt256.1 bt256.2.1 bt256.2.2 (⟨#[103, 114, 111, 117, 112, 95, 99, 111, 110, 99, 97, 116]⟩ : ByteArray) false (([(⟨bt259.1, bt259.2.1, bt259.2.2⟩ : S24), (⟨0, 0, (⟨#[]⟩ : ByteArray)⟩ : S24), (⟨bt262.1, bt262.2.1, bt262.2.2⟩ : S24)] : List (S24)))).bind fun t268 => (some t268))))) else (some false)))))) else (some false)))))) else (some false)))))) else (some false)) = some r := H
            have A24 := am A240
            clear A240
            by_cases c25 : t216 = true
            · subst c25
              have H1 : ((q3 3).bind fun bt217 => ((q3 1).bind fun bt220 => ((q3 1).bind fun bt223 => ((q0 bt217.1 bt217.2.1 bt217.2.2 (⟨#[99, 111, 117, 110, 116, 42]⟩ : ByteArray) false (([(⟨bt220.1, bt220.2.1, bt220.2.2⟩ : S24), (⟨0, 0, (⟨#[]⟩ : ByteArray)⟩ : S24), (⟨bt223.1, bt223.2.1, bt223.2.2⟩ : S24)] : List (S24)))).bind fun t229 => (if t229 = true then ((q3 5).bind fun bt230 => ((q1 (⟨#[97]⟩ : ByteArray)).bind fun bt233 => ((q3 5).bind fun bt236 => ((q0 bt230.1 bt230.2.1 bt230.2.2 (⟨#[109, 105, 110]⟩ : ByteArray) false (([(⟨bt233.1, bt233.2.1, bt233.2.2⟩ : S24), (⟨bt236.1, bt236.2.1, bt236.2.2⟩ : S24), (⟨0, 0, (⟨#[]⟩ : ByteArray)⟩ : S24)] : List (S24)))).bind fun t242 => (if t242 = true then ((q1 (⟨#[97]⟩ : ByteArray)).bind fun bt243 => ((q1 (⟨#[97]⟩ : ByteArray)).bind fun bt246 => ((q3 5).bind fun bt249 => ((q0 bt243.1 bt243.2.1 bt243.2.2 (⟨#[109, 97, 120]⟩ : ByteArray) false (([(⟨bt246.1, bt246.2.1, bt246.2.2⟩ : S24), (⟨bt249.1, bt249.2.1, bt249.2.2⟩ : S24), (⟨0, 0, (⟨#[]⟩ : ByteArray)⟩ : S24)] : List (S24)))).bind fun t255 => (if t255 = true then ((q1 (⟨#[49, 44, 98]⟩ : ByteArray)).bind fun bt256 => ((q1 (⟨#[98]⟩ : ByteArray)).bind fun bt259 => ((q3 1).bind fun bt262 => ((q0 bt256.1 bt256.2.1 bt256.2.2 (⟨#[103, 114, 111, 117, 112, 95, 99, 111, 110, 99, 97, 116]⟩ : ByteArray) false (([(⟨bt259.1, bt259.2.1, bt259.2.2⟩ : S24), (⟨0, 0, (⟨#[]⟩ : ByteArray)⟩ : S24), (⟨bt262.1, bt262.2.1, bt262.2.2⟩ : S24)] : List (S24)))).bind fun t268 => (some t268))))) else (some false)))))) else (some false)))))) else (some false)))))) = some r := by rw [if_pos rfl] at H; exact H
              clear H
              have H := H1
              clear H1
              replace H := Option.bind_eq_some_iff.mp H
              obtain ⟨⟨t217, t218, t219⟩, A260, H⟩ := H
              replace H : ((q3 1).bind fun bt220 => ((q3 1).bind fun bt223 => ((q0 t217 t218 t219 (⟨#[99, 111, 117, 110, 116, 42]⟩ : ByteArray) false (([(⟨bt220.1, bt220.2.1, bt220.2.2⟩ : S24), (⟨0, 0, (⟨#[]⟩ : ByteArray)⟩ : S24), (⟨bt223.1, bt223.2.1, bt223.2.2⟩ : S24)] : List (S24)))).bind fun t229 => (if t229 = true then ((q3 5).bind fun bt230 => ((q1 (⟨#[97]⟩ : ByteArray)).bind fun bt233 => ((q3 5).bind fun bt236 => ((q0 bt230.1 bt230.2.1 bt230.2.2 (⟨#[109, 105, 110]⟩ : ByteArray) false (([(⟨bt233.1, bt233.2.1, bt233.2.2⟩ : S24), (⟨bt236.1, bt236.2.1, bt236.2.2⟩ : S24), (⟨0, 0, (⟨#[]⟩ : ByteArray)⟩ : S24)] : List (S24)))).bind fun t242 => (if t242 = true then ((q1 (⟨#[97]⟩ : ByteArray)).bind fun bt243 => ((q1 (⟨#[97]⟩ : ByteArray)).bind fun bt246 => ((q3 5).bind fun bt249 => ((q0 bt243.1 bt243.2.1 bt243.2.2 (⟨#[109, 97, 120]⟩ : ByteArray) false (([(⟨bt246.1, bt246.2.1, bt246.2.2⟩ : S24), (⟨bt249.1, bt249.2.1, bt249.2.2⟩ : S24), (⟨0, 0, (⟨#[]⟩ : ByteArray)⟩ : S24)] : List (S24)))).bind fun t255 => (if t255 = true then ((q1 (⟨#[49, 44, 98]⟩ : ByteArray)).bind fun bt256 => ((q1 (⟨#[98]⟩ : ByteArray)).bind fun bt259 => ((q3 1).bind fun bt262 => ((q0 bt256.1 bt256.2.1 bt256.2.2 (⟨#[103, 114, 111, 117, 112, 95, 99, 111, 110, 99, 97, 116]⟩ : ByteArray) false (([(⟨bt259.1, bt259.2.1, bt259.2.2⟩ : S24), (⟨0, 0, (⟨#[]⟩ : ByteArray)⟩ : S24), (⟨bt262.1, bt262.2.1, bt262.2.2⟩ : S24)] : List (S24)))).bind fun t268 => (some t268))))) else (some false)))))) else (some false)))))) else (some false))))) = some r := H
              have A26 := am A260
              clear A260
              replace H := Option.bind_eq_some_iff.mp H
              obtain ⟨⟨t220, t221, t222⟩, A270, H⟩ := H
              replace H : ((q3 1).bind fun bt223 => ((q0 t217 t218 t219 (⟨#[99, 111, 117, 110, 116, 42]⟩ : ByteArray) false (([(⟨t220, t221, t222⟩ : S24), (⟨0, 0, (⟨#[]⟩ : ByteArray)⟩ : S24), (⟨bt223.1, bt223.2.1, bt223.2.2⟩ : S24)] : List (S24)))).bind fun t229 => (if t229 = true then ((q3 5).bind fun bt230 => ((q1 (⟨#[97]⟩ : ByteArray)).bind fun bt233 => ((q3 5).bind fun bt236 => ((q0 bt230.1 bt230.2.1 bt230.2.2 (⟨#[109, 105, 110]⟩ : ByteArray) false (([(⟨bt233.1, bt233.2.1, bt233.2.2⟩ : S24), (⟨bt236.1, bt236.2.1, bt236.2.2⟩ : S24), (⟨0, 0, (⟨#[]⟩ : ByteArray)⟩ : S24)] : List (S24)))).bind fun t242 => (if t242 = true then ((q1 (⟨#[97]⟩ : ByteArray)).bind fun bt243 => ((q1 (⟨#[97]⟩ : ByteArray)).bind fun bt246 => ((q3 5).bind fun bt249 => ((q0 bt243.1 bt243.2.1 bt243.2.2 (⟨#[109, 97, 120]⟩ : ByteArray) false (([(⟨bt246.1, bt246.2.1, bt246.2.2⟩ : S24), (⟨bt249.1, bt249.2.1, bt249.2.2⟩ : S24), (⟨0, 0, (⟨#[]⟩ : ByteArray)⟩ : S24)] : List (S24)))).bind fun t255 => (if t255 = true then ((q1 (⟨#[49, 44, 98]⟩ : ByteArray)).bind fun bt256 => ((q1 (⟨#[98]⟩ : ByteArray)).bind fun bt259 => ((q3 1).bind fun bt262 => ((q0 bt256.1 bt256.2.1 bt256.2.2 (⟨#[103, 114, 111, 117, 112, 95, 99, 111, 110, 99, 97, 116]⟩ : ByteArray) false (([(⟨bt259.1, bt259.2.1, bt259.2.2⟩ : S24), (⟨0, 0, (⟨#[]⟩ : ByteArray)⟩ : S24), (⟨bt262.1, bt262.2.1, bt262.2.2⟩ : S24)] : List (S24)))).bind fun t268 => (some t268))))) else (some false)))))) else (some false)))))) else (some false)))) = some r := H
              have A27 := am A270
              clear A270
              replace H := Option.bind_eq_some_iff.mp H
              obtain ⟨⟨t223, t224, t225⟩, A280, H⟩ := H
              replace H : ((q0 t217 t218 t219 (⟨#[99, 111, 117, 110, 116, 42]⟩ : ByteArray) false (([(⟨t220, t221, t222⟩ : S24), (⟨0, 0, (⟨#[]⟩ : ByteArray)⟩ : S24), (⟨t223, t224, t225⟩ : S24)] : List (S24)))).bind fun t229 => (if t229 = true then ((q3 5).bind fun bt230 => ((q1 (⟨#[97]⟩ : ByteArray)).bind fun bt233 => ((q3 5).bind fun bt236 => ((q0 bt230.1 bt230.2.1 bt230.2.2 (⟨#[109, 105, 110]⟩ : ByteArray) false (([(⟨bt233.1, bt233.2.1, bt233.2.2⟩ : S24), (⟨bt236.1, bt236.2.1, bt236.2.2⟩ : S24), (⟨0, 0, (⟨#[]⟩ : ByteArray)⟩ : S24)] : List (S24)))).bind fun t242 => (if t242 = true then ((q1 (⟨#[97]⟩ : ByteArray)).bind fun bt243 => ((q1 (⟨#[97]⟩ : ByteArray)).bind fun bt246 => ((q3 5).bind fun bt249 => ((q0 bt243.1 bt243.2.1 bt243.2.2 (⟨#[109, 97, 120]⟩ : ByteArray) false (([(⟨bt246.1, bt246.2.1, bt246.2.2⟩ : S24), (⟨bt249.1, bt249.2.1, bt249.2.2⟩ : S24), (⟨0, 0, (⟨#[]⟩ : ByteArray)⟩ : S24)] : List (S24)))).bind fun t255 => (if t255 = true then ((q1 (⟨#[49, 44, 98]⟩ : ByteArray)).bind fun bt256 => ((q1 (⟨#[98]⟩ : ByteArray)).bind fun bt259 => ((q3 1).bind fun bt262 => ((q0 bt256.1 bt256.2.1 bt256.2.2 (⟨#[103, 114, 111, 117, 112, 95, 99, 111, 110, 99, 97, 116]⟩ : ByteArray) false (([(⟨bt259.1, bt259.2.1, bt259.2.2⟩ : S24), (⟨0, 0, (⟨#[]⟩ : ByteArray)⟩ : S24), (⟨bt262.1, bt262.2.1, bt262.2.2⟩ : S24)] : List (S24)))).bind fun t268 => (some t268))))) else (some false)))))) else (some false)))))) else (some false))) = some r := H
              have A28 := am A280
              clear A280
              obtain ⟨y226, hy226⟩ : ∃ y_ : List (S24), y_ = (([(⟨t220, t221, t222⟩ : S24), (⟨0, 0, (⟨#[]⟩ : ByteArray)⟩ : S24), (⟨t223, t224, t225⟩ : S24)] : List (S24))) := ⟨_, rfl⟩
              replace H : ((q0 t217 t218 t219 (⟨#[99, 111, 117, 110, 116, 42]⟩ : ByteArray) false y226).bind fun t229 => (if t229 = true then ((q3 5).bind fun bt230 => ((q1 (⟨#[97]⟩ : ByteArray)).bind fun bt233 => ((q3 5).bind fun bt236 => ((q0 bt230.1 bt230.2.1 bt230.2.2 (⟨#[109, 105, 110]⟩ : ByteArray) false (([(⟨bt233.1, bt233.2.1, bt233.2.2⟩ : S24), (⟨bt236.1, bt236.2.1, bt236.2.2⟩ : S24), (⟨0, 0, (⟨#[]⟩ : ByteArray)⟩ : S24)] : List (S24)))).bind fun t242 => (if t242 = true then ((q1 (⟨#[97]⟩ : ByteArray)).bind fun bt243 => ((q1 (⟨#[97]⟩ : ByteArray)).bind fun bt246 => ((q3 5).bind fun bt249 => ((q0 bt243.1 bt243.2.1 bt243.2.2 (⟨#[109, 97, 120]⟩ : ByteArray) false (([(⟨bt246.1, bt246.2.1, bt246.2.2⟩ : S24), (⟨bt249.1, bt249.2.1, bt249.2.2⟩ : S24), (⟨0, 0, (⟨#[]⟩ : ByteArray)⟩ : S24)] : List (S24)))).bind fun t255 => (if t255 = true then ((q1 (⟨#[49, 44, 98]⟩ : ByteArray)).bind fun bt256 => ((q1 (⟨#[98]⟩ : ByteArray)).bind fun bt259 => ((q3 1).bind fun bt262 => ((q0 bt256.1 bt256.2.1 bt256.2.2 (⟨#[103, 114, 111, 117, 112, 95, 99, 111, 110, 99, 97, 116]⟩ : ByteArray) false (([(⟨bt259.1, bt259.2.1, bt259.2.2⟩ : S24), (⟨0, 0, (⟨#[]⟩ : ByteArray)⟩ : S24), (⟨bt262.1, bt262.2.1, bt262.2.2⟩ : S24)] : List (S24)))).bind fun t268 => (some t268))))) else (some false)))))) else (some false)))))) else (some false))) = some r := by first | (rw [hy226]; with_reducible exact H) | (have H2_ := (Option.bind_some _ _).symm.trans H; rw [hy226]; with_reducible exact H2_) | (have H2_ := (Option.bind_some _ _).symm.trans H; with_reducible exact H2_) | with_reducible exact H | (rw [hy226]; exact H) | exact H
              have Ny226 := am hy226
              clear hy226
              replace H := Option.bind_eq_some_iff.mp H
              obtain ⟨t229, A290, H⟩ := H
              replace H : (if t229 = true then ((q3 5).bind fun bt230 => ((q1 (⟨#[97]⟩ : ByteArray)).bind fun bt233 => ((q3 5).bind fun bt236 => ((q0 bt230.1 bt230.2.1 bt230.2.2 (⟨#[109, 105, 110]⟩ : ByteArray) false (([(⟨bt233.1, bt233.2.1, bt233.2.2⟩ : S24), (⟨bt236.1, bt236.2.1, bt236.2.2⟩ : S24), (⟨0, 0, (⟨#[]⟩ : ByteArray)⟩ : S24)] : List (S24)))).bind fun t242 => (if t242 = true then ((q1 (⟨#[97]⟩ : ByteArray)).bind fun bt243 => ((q1 (⟨#[97]⟩ : ByteArray)).bind fun bt246 => ((q3 5).bind fun bt249 => ((q0 bt243.1 bt243.2.1 bt243.2.2 (⟨#[109, 97, 120]⟩ : ByteArray) false (([(⟨bt246.1, bt246.2.1, bt246.2.2⟩ : S24), (⟨bt249.1, bt249.2.1, bt249.2.2⟩ : S24), (⟨0, 0, (⟨#[]⟩ : ByteArray)⟩ : S24)] : List (S24)))).bind fun t255 => (if t255 = true then ((q1 (⟨#[49, 44, 98]⟩ : ByteArray)).bind fun bt256 => ((q1 (⟨#[98]⟩ : ByteArray)).bind fun bt259 => ((q3 1).bind fun bt262 => ((q0 bt256.1 bt256.2.1 bt256.2.2 (⟨#[103, 114, 111, 117, 112, 95, 99, 111, 110, 99, 97, 116]⟩ : ByteArray) false (([(⟨bt259.1, bt259.2.1, bt259.2.2⟩ : S24), (⟨0, 0, (⟨#[]⟩ : ByteArray)⟩ : S24), (⟨bt262.1, bt262.2.1, bt262.2.2⟩ : S24)] : List (S24)))).bind fun t268 => (some t268))))) else (some false)))))) else (some false)))))) else (some false)) = some r := H
              have A29 := am A290
              clear A290
              by_cases c30 : t229 = true
              · subst c30
                have H1 : ((q3 5).bind fun bt230 => ((q1 (⟨#[97]⟩ : ByteArray)).bind fun bt233 => ((q3 5).bind fun bt236 => ((q0 bt230.1 bt230.2.1 bt230.2.2 (⟨#[109, 105, 110]⟩ : ByteArray) false (([(⟨bt233.1, bt233.2.1, bt233.2.2⟩ : S24), (⟨bt236.1, bt236.2.1, bt236.2.2⟩ : S24), (⟨0, 0, (⟨#[]⟩ : ByteArray)⟩ : S24)] : List (S24)))).bind fun t242 => (if t242 = true then ((q1 (⟨#[97]⟩ : ByteArray)).bind fun bt243 => ((q1 (⟨#[97]⟩ : ByteArray)).bind fun bt246 => ((q3 5).bind fun bt249 => ((q0 bt243.1 bt243.2.1 bt243.2.2 (⟨#[109, 97, 120]⟩ : ByteArray) false (([(⟨bt246.1, bt246.2.1, bt246.2.2⟩ : S24), (⟨bt249.1, bt249.2.1, bt249.2.2⟩ : S24), (⟨0, 0, (⟨#[]⟩ : ByteArray)⟩ : S24)] : List (S24)))).bind fun t255 => (if t255 = true then ((q1 (⟨#[49, 44, 98]⟩ : ByteArray)).bind fun bt256 => ((q1 (⟨#[98]⟩ : ByteArray)).bind fun bt259 => ((q3 1).bind fun bt262 => ((q0 bt256.1 bt256.2.1 bt256.2.2 (⟨#[103, 114, 111, 117, 112, 95, 99, 111, 110, 99, 97, 116]⟩ : ByteArray) false (([(⟨bt259.1, bt259.2.1, bt259.2.2⟩ : S24), (⟨0, 0, (⟨#[]⟩ : ByteArray)⟩ : S24), (⟨bt262.1, bt262.2.1, bt262.2.2⟩ : S24)] : List (S24)))).bind fun t268 => (some t268))))) else (some false)))))) else (some false)))))) = some r := by rw [if_pos rfl] at H; exact H
                clear H
                have H := H1
                clear H1
                replace H := Option.bind_eq_some_iff.mp H
                obtain ⟨⟨t230, t231, t232⟩, A310, H⟩ := H
                replace H : ((q1 (⟨#[97]⟩ : ByteArray)).bind fun bt233 => ((q3 5).bind fun bt236 => ((q0 t230 t231 t232 (⟨#[109, 105, 110]⟩ : ByteArray) false (([(⟨bt233.1, bt233.2.1, bt233.2.2⟩ : S24), (⟨bt236.1, bt236.2.1, bt236.2.2⟩ : S24), (⟨0, 0, (⟨#[]⟩ : ByteArray)⟩ : S24)] : List (S24)))).bind fun t242 => (if t242 = true then ((q1 (⟨#[97]⟩ : ByteArray)).bind fun bt243 => ((q1 (⟨#[97]⟩ : ByteArray)).bind fun bt246 => ((q3 5).bind fun bt249 => ((q0 bt243.1 bt243.2.1 bt243.2.2 (⟨#[109, 97, 120]⟩ : ByteArray) false (([(⟨bt246.1, bt246.2.1, bt246.2.2⟩ : S24), (⟨bt249.1, bt249.2.1, bt249.2.2⟩ : S24), (⟨0, 0, (⟨#[]⟩ : ByteArray)⟩ : S24)] : List (S24)))).bind fun t255 => (if t255 = true then ((q1 (⟨#[49, 44, 98]⟩ : ByteArray)).bind fun bt256 => ((q1 (⟨#[98]⟩ : ByteArray)).bind fun bt259 => ((q3 1).bind fun bt262 => ((q0 bt256.1 bt256.2.1 bt256.2.2 (⟨#[103, 114, 111, 117, 112, 95, 99, 111, 110, 99, 97, 116]⟩ : ByteArray) false (([(⟨bt259.1, bt259.2.1, bt259.2.2⟩ : S24), (⟨0, 0, (⟨#[]⟩ : ByteArray)⟩ : S24), (⟨bt262.1, bt262.2.1, bt262.2.2⟩ : S24)] : List (S24)))).bind fun t268 => (some t268))))) else (some false)))))) else (some false))))) = some r := H
                have A31 := am A310
                clear A310
                replace H := Option.bind_eq_some_iff.mp H
                obtain ⟨⟨t233, t234, t235⟩, A320, H⟩ := H
                replace H : ((q3 5).bind fun bt236 => ((q0 t230 t231 t232 (⟨#[109, 105, 110]⟩ : ByteArray) false (([(⟨t233, t234, t235⟩ : S24), (⟨bt236.1, bt236.2.1, bt236.2.2⟩ : S24), (⟨0, 0, (⟨#[]⟩ : ByteArray)⟩ : S24)] : List (S24)))).bind fun t242 => (if t242 = true then ((q1 (⟨#[97]⟩ : ByteArray)).bind fun bt243 => ((q1 (⟨#[97]⟩ : ByteArray)).bind fun bt246 => ((q3 5).bind fun bt249 => ((q0 bt243.1 bt243.2.1 bt243.2.2 (⟨#[109, 97, 120]⟩ : ByteArray) false (([(⟨bt246.1, bt246.2.1, bt246.2.2⟩ : S24), (⟨bt249.1, bt249.2.1, bt249.2.2⟩ : S24), (⟨0, 0, (⟨#[]⟩ : ByteArray)⟩ : S24)] : List (S24)))).bind fun t255 => (if t255 = true then ((q1 (⟨#[49, 44, 98]⟩ : ByteArray)).bind fun bt256 => ((q1 (⟨#[98]⟩ : ByteArray)).bind fun bt259 => ((q3 1).bind fun bt262 => ((q0 bt256.1 bt256.2.1 bt256.2.2 (⟨#[103, 114, 111, 117, 112, 95, 99, 111, 110, 99, 97, 116]⟩ : ByteArray) false (([(⟨bt259.1, bt259.2.1, bt259.2.2⟩ : S24), (⟨0, 0, (⟨#[]⟩ : ByteArray)⟩ : S24), (⟨bt262.1, bt262.2.1, bt262.2.2⟩ : S24)] : List (S24)))).bind fun t268 => (some t268))))) else (some false)))))) else (some false)))) = some r := H
                have A32 := am A320
                clear A320
                replace H := Option.bind_eq_some_iff.mp H
                obtain ⟨⟨t236, t237, t238⟩, A330, H⟩ := H
                replace H : ((q0 t230 t231 t232 (⟨#[109, 105, 110]⟩ : ByteArray) false (([(⟨t233, t234, t235⟩ : S24), (⟨t236, t237, t238⟩ : S24), (⟨0, 0, (⟨#[]⟩ : ByteArray)⟩ : S24)] : List (S24)))).bind fun t242 => (if t242 = true then ((q1 (⟨#[97]⟩ : ByteArray)).bind fun bt243 => ((q1 (⟨#[97]⟩ : ByteArray)).bind fun bt246 => ((q3 5).bind fun bt249 => ((q0 bt243.1 bt243.2.1 bt243.2.2 (⟨#[109, 97, 120]⟩ : ByteArray) false (([(⟨bt246.1, bt246.2.1, bt246.2.2⟩ : S24), (⟨bt249.1, bt249.2.1, bt249.2.2⟩ : S24), (⟨0, 0, (⟨#[]⟩ : ByteArray)⟩ : S24)] : List (S24)))).bind fun t255 => (if t255 = true then ((q1 (⟨#[49, 44, 98]⟩ : ByteArray)).bind fun bt256 => ((q1 (⟨#[98]⟩ : ByteArray)).bind fun bt259 => ((q3 1).bind fun bt262 => ((q0 bt256.1 bt256.2.1 bt256.2.2 (⟨#[103, 114, 111, 117, 112, 95, 99, 111, 110, 99, 97, 116]⟩ : ByteArray) false (([(⟨bt259.1, bt259.2.1, bt259.2.2⟩ : S24), (⟨0, 0, (⟨#[]⟩ : ByteArray)⟩ : S24), (⟨bt262.1, bt262.2.1, bt262.2.2⟩ : S24)] : List (S24)))).bind fun t268 => (some t268))))) else (some false)))))) else (some false))) = some r := H
                have A33 := am A330
                clear A330
                obtain ⟨y239, hy239⟩ : ∃ y_ : List (S24), y_ = (([(⟨t233, t234, t235⟩ : S24), (⟨t236, t237, t238⟩ : S24), (⟨0, 0, (⟨#[]⟩ : ByteArray)⟩ : S24)] : List (S24))) := ⟨_, rfl⟩
                replace H : ((q0 t230 t231 t232 (⟨#[109, 105, 110]⟩ : ByteArray) false y239).bind fun t242 => (if t242 = true then ((q1 (⟨#[97]⟩ : ByteArray)).bind fun bt243 => ((q1 (⟨#[97]⟩ : ByteArray)).bind fun bt246 => ((q3 5).bind fun bt249 => ((q0 bt243.1 bt243.2.1 bt243.2.2 (⟨#[109, 97, 120]⟩ : ByteArray) false (([(⟨bt246.1, bt246.2.1, bt246.2.2⟩ : S24), (⟨bt249.1, bt249.2.1, bt249.2.2⟩ : S24), (⟨0, 0, (⟨#[]⟩ : ByteArray)⟩ : S24)] : List (S24)))).bind fun t255 => (if t255 = true then ((q1 (⟨#[49, 44, 98]⟩ : ByteArray)).bind fun bt256 => ((q1 (⟨#[98]⟩ : ByteArray)).bind fun bt259 => ((q3 1).bind fun bt262 => ((q0 bt256.1 bt256.2.1 bt256.2.2 (⟨#[103, 114, 111, 117, 112, 95, 99, 111, 110, 99, 97, 116]⟩ : ByteArray) false (([(⟨bt259.1, bt259.2.1, bt259.2.2⟩ : S24), (⟨0, 0, (⟨#[]⟩ : ByteArray)⟩ : S24), (⟨bt262.1, bt262.2.1, bt262.2.2⟩ : S24)] : List (S24)))).bind fun t268 => (some t268))))) else (some false)))))) else (some false))) = some r := by first | (rw [hy239]; with_reducible exact H) | (have H2_ := (Option.bind_some _ _).symm.trans H; rw [hy239]; with_reducible exact H2_) | (have H2_ := (Option.bind_some _ _).symm.trans H; with_reducible exact H2_) | with_reducible exact H | (rw [hy239]; exact H) | exact H
                have Ny239 := am hy239
                clear hy239
                replace H := Option.bind_eq_some_iff.mp H
                obtain ⟨t242, A340, H⟩ := H
                replace H : (if t242 = true then ((q1 (⟨#[97]⟩ : ByteArray)).bind fun bt243 => ((q1 (⟨#[97]⟩ : ByteArray)).bind fun bt246 => ((q3 5).bind fun bt249 => ((q0 bt243.1 bt243.2.1 bt243.2.2 (⟨#[109, 97, 120]⟩ : ByteArray) false (([(⟨bt246.1, bt246.2.1, bt246.2.2⟩ : S24), (⟨bt249.1, bt249.2.1, bt249.2.2⟩ : S24), (⟨0, 0, (⟨#[]⟩ : ByteArray)⟩ : S24)] : List (S24)))).bind fun t255 => (if t255 = true then ((q1 (⟨#[49, 44, 98]⟩ : ByteArray)).bind fun bt256 => ((q1 (⟨#[98]⟩ : ByteArray)).bind fun bt259 => ((q3 1).bind fun bt262 => ((q0 bt256.1 bt256.2.1 bt256.2.2 (⟨#[103, 114, 111, 117, 112, 95, 99, 111, 110, 99, 97, 116]⟩ : ByteArray) false (([(⟨bt259.1, bt259.2.1, bt259.2.2⟩ : S24), (⟨0, 0, (⟨#[]⟩ : ByteArray)⟩ : S24), (⟨bt262.1, bt262.2.1, bt262.2.2⟩ : S24)] : List (S24)))).bind fun t268 => (some t268))))) else (some false)))))) else (some false)) = some r := H
                have A34 := am A340
                clear A340
                by_cases c35 : t242 = true
                · subst c35
                  have H1 : ((q1 (⟨#[97]⟩ : ByteArray)).bind fun bt243 => ((q1 (⟨#[97]⟩ : ByteArray)).bind fun bt246 => ((q3 5).bind fun bt249 => ((q0 bt243.1 bt243.2.1 bt243.2.2 (⟨#[109, 97, 120]⟩ : ByteArray) false (([(⟨bt246.1, bt246.2.1, bt246.2.2⟩ : S24), (⟨bt249.1, bt249.2.1, bt249.2.2⟩ : S24), (⟨0, 0, (⟨#[]⟩ : ByteArray)⟩ : S24)] : List (S24)))).bind fun t255 => (if t255 = true then ((q1 (⟨#[49, 44, 98]⟩ : ByteArray)).bind fun bt256 => ((q1 (⟨#[98]⟩ : ByteArray)).bind fun bt259 => ((q3 1).bind fun bt262 => ((q0 bt256.1 bt256.2.1 bt256.2.2 (⟨#[103, 114, 111, 117, 112, 95, 99, 111, 110, 99, 97, 116]⟩ : ByteArray) false (([(⟨bt259.1, bt259.2.1, bt259.2.2⟩ : S24), (⟨0, 0, (⟨#[]⟩ : ByteArray)⟩ : S24), (⟨bt262.1, bt262.2.1, bt262.2.2⟩ : S24)] : List (S24)))).bind fun t268 => (some t268))))) else (some false)))))) = some r := by rw [if_pos rfl] at H; exact H
                  clear H
                  have H := H1
                  clear H1
                  replace H := Option.bind_eq_some_iff.mp H
                  obtain ⟨⟨t243, t244, t245⟩, A360, H⟩ := H
                  replace H : ((q1 (⟨#[97]⟩ : ByteArray)).bind fun bt246 => ((q3 5).bind fun bt249 => ((q0 t243 t244 t245 (⟨#[109, 97, 120]⟩ : ByteArray) false (([(⟨bt246.1, bt246.2.1, bt246.2.2⟩ : S24), (⟨bt249.1, bt249.2.1, bt249.2.2⟩ : S24), (⟨0, 0, (⟨#[]⟩ : ByteArray)⟩ : S24)] : List (S24)))).bind fun t255 => (if t255 = true then ((q1 (⟨#[49, 44, 98]⟩ : ByteArray)).bind fun bt256 => ((q1 (⟨#[98]⟩ : ByteArray)).bind fun bt259 => ((q3 1).bind fun bt262 => ((q0 bt256.1 bt256.2.1 bt256.2.2 (⟨#[103, 114, 111, 117, 112, 95, 99, 111, 110, 99, 97, 116]⟩ : ByteArray) false (([(⟨bt259.1, bt259.2.1, bt259.2.2⟩ : S24), (⟨0, 0, (⟨#[]⟩ : ByteArray)⟩ : S24), (⟨bt262.1, bt262.2.1, bt262.2.2⟩ : S24)] : List (S24)))).bind fun t268 => (some t268))))) else (some false))))) = some r := H
                  have A36 := am A360
                  clear A360
                  replace H := Option.bind_eq_some_iff.mp H
                  obtain ⟨⟨t246, t247, t248⟩, A370, H⟩ := H
                  replace H : ((q3 5).bind fun bt249 => ((q0 t243 t244 t245 (⟨#[109, 97, 120]⟩ : ByteArray) false (([(⟨t246, t247, t248⟩ : S24), (⟨bt249.1, bt249.2.1, bt249.2.2⟩ : S24), (⟨0, 0, (⟨#[]⟩ : ByteArray)⟩ : S24)] : List (S24)))).bind fun t255 => (if t255 = true then ((q1 (⟨#[49, 44, 98]⟩ : ByteArray)).bind fun bt256 => ((q1 (⟨#[98]⟩ : ByteArray)).bind fun bt259 => ((q3 1).bind fun bt262 => ((q0 bt256.1 bt256.2.1 bt256.2.2 (⟨#[103, 114, 111, 117, 112, 95, 99, 111, 110, 99, 97, 116]⟩ : ByteArray) false (([(⟨bt259.1, bt259.2.1, bt259.2.2⟩ : S24), (⟨0, 0, (⟨#[]⟩ : ByteArray)⟩ : S24), (⟨bt262.1, bt262.2.1, bt262.2.2⟩ : S24)] : List (S24)))).bind fun t268 => (some t268))))) else (some false)))) = some r := H
                  have A37 := am A370
                  clear A370
                  replace H := Option.bind_eq_some_iff.mp H
                  obtain ⟨⟨t249, t250, t251⟩, A380, H⟩ := H
                  replace H : ((q0 t243 t244 t245 (⟨#[109, 97, 120]⟩ : ByteArray) false (([(⟨t246, t247, t248⟩ : S24), (⟨t249, t250, t251⟩ : S24), (⟨0, 0, (⟨#[]⟩ : ByteArray)⟩ : S24)] : List (S24)))).bind fun t255 => (if t255 = true then ((q1 (⟨#[49, 44, 98]⟩ : ByteArray)).bind fun bt256 => ((q1 (⟨#[98]⟩ : ByteArray)).bind fun bt259 => ((q3 1).bind fun bt262 => ((q0 bt256.1 bt256.2.1 bt256.2.2 (⟨#[103, 114, 111, 117, 112, 95, 99, 111, 110, 99, 97, 116]⟩ : ByteArray) false (([(⟨bt259.1, bt259.2.1, bt259.2.2⟩ : S24), (⟨0, 0, (⟨#[]⟩ : ByteArray)⟩ : S24), (⟨bt262.1, bt262.2.1, bt262.2.2⟩ : S24)] : List (S24)))).bind fun t268 => (some t268))))) else (some false))) = some r := H
                  have A38 := am A380
                  clear A380
                  obtain ⟨y252, hy252⟩ : ∃ y_ : List (S24), y_ = (([(⟨t246, t247, t248⟩ : S24), (⟨t249, t250, t251⟩ : S24), (⟨0, 0, (⟨#[]⟩ : ByteArray)⟩ : S24)] : List (S24))) := ⟨_, rfl⟩
                  replace H : ((q0 t243 t244 t245 (⟨#[109, 97, 120]⟩ : ByteArray) false y252).bind fun t255 => (if t255 = true then ((q1 (⟨#[49, 44, 98]⟩ : ByteArray)).bind fun bt256 => ((q1 (⟨#[98]⟩ : ByteArray)).bind fun bt259 => ((q3 1).bind fun bt262 => ((q0 bt256.1 bt256.2.1 bt256.2.2 (⟨#[103, 114, 111, 117, 112, 95, 99, 111, 110, 99, 97, 116]⟩ : ByteArray) false (([(⟨bt259.1, bt259.2.1, bt259.2.2⟩ : S24), (⟨0, 0, (⟨#[]⟩ : ByteArray)⟩ : S24), (⟨bt262.1, bt262.2.1, bt262.2.2⟩ : S24)] : List (S24)))).bind fun t268 => (some t268))))) else (some false))) = some r := by first | (rw [hy252]; with_reducible exact H) | (have H2_ := (Option.bind_some _ _).symm.trans H; rw [hy252]; with_reducible exact H2_) | (have H2_ := (Option.bind_some _ _).symm.trans H; with_reducible exact H2_) | with_reducible exact H | (rw [hy252]; exact H) | exact H
                  have Ny252 := am hy252
                  clear hy252
                  replace H := Option.bind_eq_some_iff.mp H
                  obtain ⟨t255, A390, H⟩ := H
                  replace H : (if t255 = true then ((q1 (⟨#[49, 44, 98]⟩ : ByteArray)).bind fun bt256 => ((q1 (⟨#[98]⟩ : ByteArray)).bind fun bt259 => ((q3 1).bind fun bt262 => ((q0 bt256.1 bt256.2.1 bt256.2.2 (⟨#[103, 114, 111, 117, 112, 95, 99, 111, 110, 99, 97, 116]⟩ : ByteArray) false (([(⟨bt259.1, bt259.2.1, bt259.2.2⟩ : S24), (⟨0, 0, (⟨#[]⟩ : ByteArray)⟩ : S24), (⟨bt262.1, bt262.2.1, bt262.2.2⟩ : S24)] : List (S24)))).bind fun t268 => (some t268))))) else (some false)) = some r := H
                  have A39 := am A390
                  clear A390
                  by_cases c40 : t255 = true
                  · subst c40
                    have H1 : ((q1 (⟨#[49, 44, 98]⟩ : ByteArray)).bind fun bt256 => ((q1 (⟨#[98]⟩ : ByteArray)).bind fun bt259 => ((q3 1).bind fun bt262 => ((q0 bt256.1 bt256.2.1 bt256.2.2 (⟨#[103, 114, 111, 117, 112, 95, 99, 111, 110, 99, 97, 116]⟩ : ByteArray) false (([(⟨bt259.1, bt259.2.1, bt259.2.2⟩ : S24), (⟨0, 0, (⟨#[]⟩ : ByteArray)⟩ : S24), (⟨bt262.1, bt262.2.1, bt262.2.2⟩ : S24)] : List (S24)))).bind fun t268 => (some t268))))) = some r := by rw [if_pos rfl] at H; exact H
                    clear H
                    have H := H1
                    clear H1
                    replace H := Option.bind_eq_some_iff.mp H
                    obtain ⟨⟨t256, t257, t258⟩, A410, H⟩ := H
                    replace H : ((q1 (⟨#[98]⟩ : ByteArray)).bind fun bt259 => ((q3 1).bind fun bt262 => ((q0 t256 t257 t258 (⟨#[103, 114, 111, 117, 112, 95, 99, 111, 110, 99, 97, 116]⟩ : ByteArray) false (([(⟨bt259.1, bt259.2.1, bt259.2.2⟩ : S24), (⟨0, 0, (⟨#[]⟩ : ByteArray)⟩ : S24), (⟨bt262.1, bt262.2.1, bt262.2.2⟩ : S24)] : List (S24)))).bind fun t268 => (some t268)))) = some r := H
                    have A41 := am A410
                    clear A410
                    replace H := Option.bind_eq_some_iff.mp H
                    obtain ⟨⟨t259, t260, t261⟩, A420, H⟩ := H
                    replace H : ((q3 1).bind fun bt262 => ((q0 t256 t257 t258 (⟨#[103, 114, 111, 117, 112, 95, 99, 111, 110, 99, 97, 116]⟩ : ByteArray) false (([(⟨t259, t260, t261⟩ : S24), (⟨0, 0, (⟨#[]⟩ : ByteArray)⟩ : S24), (⟨bt262.1, bt262.2.1, bt262.2.2⟩ : S24)] : List (S24)))).bind fun t268 => (some t268))) = some r := H
                    have A42 := am A420
                    clear A420
                    replace H := Option.bind_eq_some_iff.mp H
                    obtain ⟨⟨t262, t263, t264⟩, A430, H⟩ := H
                    replace H : ((q0 t256 t257 t258 (⟨#[103, 114, 111, 117, 112, 95, 99, 111, 110, 99, 97, 116]⟩ : ByteArray) false (([(⟨t259, t260, t261⟩ : S24), (⟨0, 0, (⟨#[]⟩ : ByteArray)⟩ : S24), (⟨t262, t263, t264⟩ : S24)] : List (S24)))).bind fun t268 => (some t268)) = some r := H
                    have A43 := am A430
                    clear A430
                    obtain ⟨y265, hy265⟩ : ∃ y_ : List (S24), y_ = (([(⟨t259, t260, t261⟩ : S24), (⟨0, 0, (⟨#[]⟩ : ByteArray)⟩ : S24), (⟨t262, t263, t264⟩ : S24)] : List (S24))) := ⟨_, rfl⟩
                    replace H : ((q0 t256 t257 t258 (⟨#[103, 114, 111, 117, 112, 95, 99, 111, 110, 99, 97, 116]⟩ : ByteArray) false y265).bind fun t268 => (some t268)) = some r := by first | (rw [hy265]; with_reducible exact H) | (have H2_ := (Option.bind_some _ _).symm.trans H; rw [hy265]; with_reducible exact H2_) | (have H2_ := (Option.bind_some _ _).symm.trans H; with_reducible exact H2_) | with_reducible exact H | (rw [hy265]; exact H) | exact H
                    have Ny265 := am hy265
                    clear hy265
                    replace H := Option.bind_eq_some_iff.mp H
                    obtain ⟨t268, A440, H⟩ := H
                    replace H : (some t268) = some r := H
                    have A44 := am A440
                    clear A440
                    obtain rfl := Option.some.inj H
                    simp only [Option.some.injEq, Prod.mk.injEq] at H
                    obtain ⟨rfl⟩ := H
                    go_enter Tryd.func12, Tryd.ntmps12
                    try go_wp2_with (first | ((with_reducible refine gate_dst (N := 1) rfl ?_); (try (refine gate_guard (by rfl) ?_; dsimp only)); refine box_event ?hg (N := 1) ?hd (cs := #[.int .u8 0, .int .i64 0, .string (⟨#[]⟩ : ByteArray)]) (t := 24) ?hr ?_; (case hd => rfl); (case hg => rfl); (case hr => first | (go_simp; done) | (go_simp; rfl)); intro gb159 hg w45 hbox hb; have n0_ := am (below_step (by repeat (first | (with_reducible first | exact HB.out | apply below_alloc | apply pw_below_drewN | apply below_drew1) | exact HB.out)) hb); have n1_ := am (hbox); have n2_ := am ((by rw [hg]; exact (below_size (by repeat (first | (with_reducible first | exact HB.out | apply below_alloc | apply pw_below_drewN | apply below_drew1) | exact HB.out))) : w.heap.size ≤ gb159)); have n3_ := am ((by rw [hg]; exact (below_size (by repeat (first | (with_reducible first | exact HB.out | apply below_alloc | apply pw_below_drewN | apply below_drew1) | exact HB.out))) : w.heap.size ≤ gb159)); clear HB; have HB := n0_; have BK159 := n1_; have GW159 := n2_; have GE159 := n3_; clear n0_ n1_ n2_ n3_; clear hb hbox hg; have hcz46_0 : w45.cell? ⟨gb159, 0, none⟩ = some (.int .u8 0) := (blk_cell BK159.out 0).trans rfl; have hcz46_1 : w45.cell? ⟨gb159, 1, none⟩ = some (.int .i64 0) := (blk_cell BK159.out 1).trans rfl; have hcz46_2 : w45.cell? ⟨gb159, 2, none⟩ = some (.string (⟨#[]⟩ : ByteArray)) := (blk_cell BK159.out 2).trans rfl; have hfz46_0 := blk_frozen BK159.out 0; have hfz46_1 := blk_frozen BK159.out 1; have hfz46_2 := blk_frozen BK159.out 2))
                    have n0_ : Aside0 ((((w45.setCell ⟨gb159, 0, none⟩ (.int .u8 0)).setCell ⟨gb159, 1, none⟩ (.int .i64 0)).setCell ⟨gb159, 2, none⟩ (.string (⟨#[]⟩ : ByteArray))).heap[gb159]? = some (.cells #[.int .u8 0, .int .i64 0, .string (⟨#[]⟩ : ByteArray)] 24 (0, 0))) := ⟨by (with_reducible repeat (first | refine blk_drewN ?_ _ | refine blk_drew ?_ | refine blk_alloc ?_ _)); refine blk_put (cs := #[.int .u8 0, .int .i64 0, .string (⟨#[]⟩ : ByteArray)]) ?_ 2 _ rfl; (with_reducible repeat (first | refine blk_drewN ?_ _ | refine blk_drew ?_ | refine blk_alloc ?_ _)); refine blk_put (cs := #[.int .u8 0, .int .i64 0, .string (⟨#[]⟩ : ByteArray)]) ?_ 1 _ rfl; (with_reducible repeat (first | refine blk_drewN ?_ _ | refine blk_drew ?_ | refine blk_alloc ?_ _)); refine blk_put (cs := #[.int .u8 0, .int .i64 0, .string (⟨#[]⟩ : ByteArray)]) ?_ 0 _ rfl; (with_reducible repeat (first | refine blk_drewN ?_ _ | refine blk_drew ?_ | refine blk_alloc ?_ _)); exact BK159.out⟩
                    have n1_ : Aside0 (Below w.heap.size w (((w45.setCell ⟨gb159, 0, none⟩ (.int .u8 0)).setCell ⟨gb159, 1, none⟩ (.int .i64 0)).setCell ⟨gb159, 2, none⟩ (.string (⟨#[]⟩ : ByteArray)))) := ⟨by repeat (first | (with_reducible first | exact HB.out | apply below_alloc | apply pw_below_drewN | apply below_drew1 | refine below_set ?_ GE159.out) | exact HB.out)⟩
                    (try clear BK159)
                    (try clear HB)
                    generalize (((w45.setCell ⟨gb159, 0, none⟩ (.int .u8 0)).setCell ⟨gb159, 1, none⟩ (.int .i64 0)).setCell ⟨gb159, 2, none⟩ (.string (⟨#[]⟩ : ByteArray))) = w47 at n0_ n1_ ⊢
                    have BK159 := n0_
                    have HB := n1_
                    clear n0_ n1_
                    have n0_ := am (blk_drew BK159.out)
                    have n1_ := am (below_drew1 HB.out)
                    clear BK159
                    clear HB
                    have BK159 := n0_
                    have HB := n1_
                    clear n0_ n1_
                    refine start_ (n := 69) (S := fun w' => w'.cell? ⟨gb159, 0, none⟩ = some (.int .u8 0) ∧ w'.cell? ⟨gb159, 1, none⟩ = some (.int .i64 0) ∧ w'.cell? ⟨gb159, 2, none⟩ = some (.string (⟨#[]⟩ : ByteArray))) (ds := []) #[false, false, false, false, false, false, false, false, false, false, false, false, false, false, false, false, false, false, false, false, false, false, false, false, false, false, false, false, false, false, false, false, false, false, false, false, false, false, false, false, false, false, false, false, false, false, false, false, false, false, false, false, false, false, false, false, false, false, false, false, false, false, false, false, false, false, false, false, false] (by kernel_rfl) rfl rfl ⟨(blk_cell BK159.out 0).trans rfl, (blk_cell BK159.out 1).trans rfl, (blk_cell BK159.out 2).trans rfl⟩ (fun hHeld => ?_); refine with_tabW cardindexlaw08_awake.tab2 cardindexlaw08_awake.bits2 (fun HT_ HW_ => ?_)
                    generalize w47.drew = w48 at BK159 HB hHeld ⊢
                    refine one_ (i := 0) (N := some 3) #[true, false, false, false, false, false, false, false, false, false, false, false, false, false, false, false, false, false, false, false, false, false, false, false, false, false, false, false, false, false, false, false, false, false, false, false, false, false, false, false, false, false, false, false, false, false, false, false, false, false, false, false, false, false, false, false, false, false, false, false, false, false, false, false, false, false, false, false, false] rfl rfl (one_of HT_.out (by kernel_rfl)) (by decide) (fun K hK => ?_)
                    refine goes_ Tryd.func17 (by kernel_rfl) rfl #[.int .i64 9223372036854775803] (by rfl) rfl rfl (by (try simp only [List.map_toArray, List.map_cons, List.map_nil]); first | done | rfl | (simp only [List.length_drop, List.length_take]; rfl)) ?_
                    with_reducible refine (cardindexlaw08_num.calls 9223372036854775803 t160 t161 t162 _ A1.out).mono ?_
                    rintro e w49 ⟨rfl, hb⟩
                    refine ⟨_, rfl, ?_⟩
                    have n0_ := am (blk_below (g := gb159) (o := .cells #[.int .u8 0, .int .i64 0, .string (⟨#[]⟩ : ByteArray)] 24 (0, 0)) (by (with_reducible repeat (first | refine blk_drewN ?_ _ | refine blk_drew ?_ | refine blk_alloc ?_ _)); exact BK159.out) hb)
                    have n1_ := am (below_step (by repeat (first | (with_reducible first | exact HB.out | apply below_alloc | apply pw_below_drewN | apply below_drew1 | refine below_set ?_ GE159.out) | exact HB.out)) hb)
                    clear BK159
                    clear HB
                    have BK159 := n0_
                    have HB := n1_
                    clear n0_ n1_
                    (try clear hb)
                    (try clear hb2)
                    (try clear hk)
                    (try clear hi)
                    refine hK.out _ _ ⟨(blk_cell BK159.out 0).trans rfl, (blk_cell BK159.out 1).trans rfl, (blk_cell BK159.out 2).trans rfl⟩ (fun hHeld => ?_)
                    clear hK K
                    refine norm_ (a' := ?_) ?_ ?_
                    rotate_left
                    · show Act.put _ (some 3) _ = _
                      simp only [Act.put, List.setIfInBounds_toArray, List.set_cons_zero, List.set_cons_succ, i64_w, i32_w]
                      rfl
                    refine one_ (i := 1) (N := some 4) #[true, true, false, false, false, false, false, false, false, false, false, false, false, false, false, false, false, false, false, false, false, false, false, false, false, false, false, false, false, false, false, false, false, false, false, false, false, false, false, false, false, false, false, false, false, false, false, false, false, false, false, false, false, false, false, false, false, false, false, false, false, false, false, false, false, false, false, false, false] rfl rfl (one_of HT_.out (by kernel_rfl)) (by decide) (fun K hK => ?_)
                    refine goes_ Tryd.func17 (by kernel_rfl) rfl #[.int .i64 9223372036854775807] (by rfl) rfl rfl (by (try simp only [List.map_toArray, List.map_cons, List.map_nil]); first | done | rfl | (simp only [List.length_drop, List.length_take]; rfl)) ?_
                    with_reducible refine (cardindexlaw08_num.calls 9223372036854775807 t163 t164 t165 _ A2.out).mono ?_
                    rintro e w50 ⟨rfl, hb⟩
                    refine ⟨_, rfl, ?_⟩
                    have n0_ := am (blk_below (g := gb159) (o := .cells #[.int .u8 0, .int .i64 0, .string (⟨#[]⟩ : ByteArray)] 24 (0, 0)) (by (with_reducible repeat (first | refine blk_drewN ?_ _ | refine blk_drew ?_ | refine blk_alloc ?_ _)); exact BK159.out) hb)
                    have n1_ := am (below_step (by repeat (first | (with_reducible first | exact HB.out | apply below_alloc | apply pw_below_drewN | apply below_drew1 | refine below_set ?_ GE159.out) | exact HB.out)) hb)
                    clear BK159
                    clear HB
                    have BK159 := n0_
                    have HB := n1_
                    clear n0_ n1_
                    (try clear hb)
                    (try clear hb2)
                    (try clear hk)
                    (try clear hi)
                    refine hK.out _ _ ⟨(blk_cell BK159.out 0).trans rfl, (blk_cell BK159.out 1).trans rfl, (blk_cell BK159.out 2).trans rfl⟩ (fun hHeld => ?_)
                    clear hK K
                    refine norm_ (a' := ?_) ?_ ?_
                    rotate_left
                    · show Act.put _ (some 4) _ = _
                      simp only [Act.put, List.setIfInBounds_toArray, List.set_cons_zero, List.set_cons_succ, i64_w, i32_w]
                      rfl
                    refine one_ (i := 2) (N := some 5) #[true, true, true, false, false, false, false, false, false, false, false, false, false, false, false, false, false, false, false, false, false, false, false, false, false, false, false, false, false, false, false, false, false, false, false, false, false, false, false, false, false, false, false, false, false, false, false, false, false, false, false, false, false, false, false, false, false, false, false, false, false, false, false, false, false, false, false, false, false] rfl rfl (one_of HT_.out (by kernel_rfl)) (by decide) (fun K hK => ?_)
                    refine goes_ Tryd.func17 (by kernel_rfl) rfl #[.int .i64 1] (by rfl) rfl rfl (by (try simp only [List.map_toArray, List.map_cons, List.map_nil]); first | done | rfl | (simp only [List.length_drop, List.length_take]; rfl)) ?_
                    with_reducible refine (cardindexlaw08_num.calls 1 t166 t167 t168 _ A3.out).mono ?_
                    rintro e w51 ⟨rfl, hb⟩
                    refine ⟨_, rfl, ?_⟩
                    have n0_ := am (blk_below (g := gb159) (o := .cells #[.int .u8 0, .int .i64 0, .string (⟨#[]⟩ : ByteArray)] 24 (0, 0)) (by (with_reducible repeat (first | refine blk_drewN ?_ _ | refine blk_drew ?_ | refine blk_alloc ?_ _)); exact BK159.out) hb)
                    have n1_ := am (below_step (by repeat (first | (with_reducible first | exact HB.out | apply below_alloc | apply pw_below_drewN | apply below_drew1 | refine below_set ?_ GE159.out) | exact HB.out)) hb)
                    clear BK159
                    clear HB
                    have BK159 := n0_
                    have HB := n1_
                    clear n0_ n1_
                    (try clear hb)
                    (try clear hb2)
                    (try clear hk)
                    (try clear hi)
                    refine hK.out _ _ ⟨(blk_cell BK159.out 0).trans rfl, (blk_cell BK159.out 1).trans rfl, (blk_cell BK159.out 2).trans rfl⟩ (fun hHeld => ?_)
                    clear hK K
                    refine norm_ (a' := ?_) ?_ ?_
                    rotate_left
                    · show Act.put _ (some 5) _ = _
                      simp only [Act.put, List.setIfInBounds_toArray, List.set_cons_zero, List.set_cons_succ, i64_w, i32_w]
                      rfl
                    refine one_ (i := 3) (N := some 6) #[true, true, true, true, false, false, false, false, false, false, false, false, false, false, false, false, false, false, false, false, false, false, false, false, false, false, false, false, false, false, false, false, false, false, false, false, false, false, false, false, false, false, false, false, false, false, false, false, false, false, false, false, false, false, false, false, false, false, false, false, false, false, false, false, false, false, false, false, false] rfl rfl (one_of HT_.out (by kernel_rfl)) (by decide) (fun K hK => ?_)
                    refine goes_ Tryd.func17 (by kernel_rfl) rfl #[.int .i64 (-5)] (by rfl) rfl rfl (by (try simp only [List.map_toArray, List.map_cons, List.map_nil]); first | done | rfl | (simp only [List.length_drop, List.length_take]; rfl)) ?_
                    with_reducible refine (cardindexlaw08_num.calls (-5) t169 t170 t171 _ A4.out).mono ?_
                    rintro e w52 ⟨rfl, hb⟩
                    refine ⟨_, rfl, ?_⟩
                    have n0_ := am (blk_below (g := gb159) (o := .cells #[.int .u8 0, .int .i64 0, .string (⟨#[]⟩ : ByteArray)] 24 (0, 0)) (by (with_reducible repeat (first | refine blk_drewN ?_ _ | refine blk_drew ?_ | refine blk_alloc ?_ _)); exact BK159.out) hb)
                    have n1_ := am (below_step (by repeat (first | (with_reducible first | exact HB.out | apply below_alloc | apply pw_below_drewN | apply below_drew1 | refine below_set ?_ GE159.out) | exact HB.out)) hb)
                    clear BK159
                    clear HB
                    have BK159 := n0_
                    have HB := n1_
                    clear n0_ n1_
                    (try clear hb)
                    (try clear hb2)
                    (try clear hk)
                    (try clear hi)
                    refine hK.out _ _ ⟨(blk_cell BK159.out 0).trans rfl, (blk_cell BK159.out 1).trans rfl, (blk_cell BK159.out 2).trans rfl⟩ (fun hHeld => ?_)
                    clear hK K
                    refine norm_ (a' := ?_) ?_ ?_
                    rotate_left
                    · show Act.put _ (some 6) _ = _
                      simp only [Act.put, List.setIfInBounds_toArray, List.set_cons_zero, List.set_cons_succ, i64_w, i32_w]
                      rfl
                    refine one_ (i := 4) (N := some 7) #[true, true, true, true, true, false, false, false, false, false, false, false, false, false, false, false, false, false, false, false, false, false, false, false, false, false, false, false, false, false, false, false, false, false, false, false, false, false, false, false, false, false, false, false, false, false, false, false, false, false, false, false, false, false, false, false, false, false, false, false, false, false, false, false, false, false, false, false, false] rfl rfl (one_of HT_.out (by kernel_rfl)) (by decide) (fun K hK => ?_)
                    refine R_lit_step k24 _ 24 ?hg (N := 7) ?hd (xs := ([(⟨t163, t164, t165⟩ : S24), (⟨t166, t167, t168⟩ : S24), (⟨t169, t170, t171⟩ : S24)] : List (S24))) (inner := [.int .u8 t163, .int .i64 t164, .string t165, .int .u8 t166, .int .i64 t167, .string t168, .int .u8 t169, .int .i64 t170, .string t171]) (ok := fun _ => True) (okp := fun _ => True) ?hr ?hp (fun _ hk => hk) trivial (Below.refl _ _) (Nat.le_refl _) (by simp) ?_; (case hd => rfl); (case hg => rfl); (case hr => first | (go_simp; done) | (go_simp; rfl)); (case hp => exact (Reps.c3 (show Kd.M k24 _ _ _ (⟨t163, t164, t165⟩ : S24) [.int .u8 t163, .int .i64 t164, .string t165] from (k24_mkM _ _ _ (⟨t163, t164, t165⟩ : S24) )) (Reps.c3 (show Kd.M k24 _ _ _ (⟨t166, t167, t168⟩ : S24) [.int .u8 t166, .int .i64 t167, .string t168] from (k24_mkM _ _ _ (⟨t166, t167, t168⟩ : S24) )) (Reps.c3 (show Kd.M k24 _ _ _ (⟨t169, t170, t171⟩ : S24) [.int .u8 t169, .int .i64 t170, .string t171] from (k24_mkM _ _ _ (⟨t169, t170, t171⟩ : S24) )) (Reps.none _ _)))))
                    intro v173 w53 ho54 hb hg_ hnew_
                    clear hg_ hnew_
                    (first | rw [← Ny172.out] at ho54 | (simp only [Int.reduceToNat] at ho54; rw [← Ny172.out] at ho54))
                    have n0_ := am (R_lower (R_newB ho54 (g := gb159) (o := .cells #[.int .u8 0, .int .i64 0, .string (⟨#[]⟩ : ByteArray)] 24 (0, 0)) (by (with_reducible repeat (first | refine blk_drewN ?_ _ | refine blk_drew ?_ | refine blk_alloc ?_ _)); exact BK159.out)) (below_size (by repeat (first | (with_reducible first | exact HB.out | apply below_alloc | apply pw_below_drewN | apply below_drew1 | refine below_set ?_ GE159.out) | exact HB.out))))
                    have n1_ := am (blk_below (g := gb159) (o := .cells #[.int .u8 0, .int .i64 0, .string (⟨#[]⟩ : ByteArray)] 24 (0, 0)) (by (with_reducible repeat (first | refine blk_drewN ?_ _ | refine blk_drew ?_ | refine blk_alloc ?_ _)); exact BK159.out) hb)
                    have n2_ := am (below_step (by repeat (first | (with_reducible first | exact HB.out | apply below_alloc | apply pw_below_drewN | apply below_drew1 | refine below_set ?_ GE159.out) | exact HB.out)) hb)
                    clear BK159
                    clear HB
                    have HO174 := n0_
                    have BK159 := n1_
                    have HB := n2_
                    clear n0_ n1_ n2_
                    clear hb ho54
                    obtain ⟨Ao55, co55, eo55⟩ := R_slice HO174.out
                    (first | subst eo55 | (injection eo55 with f1_ f2_ f3_; have f4_ := f1_.symm; have f5_ := f3_.symm; clear f1_ f2_ f3_; subst f4_; subst f5_))
                    refine hK.out _ _ ⟨(blk_cell BK159.out 0).trans rfl, (blk_cell BK159.out 1).trans rfl, (blk_cell BK159.out 2).trans rfl⟩ (fun hHeld => ?_)
                    clear hK K
                    refine norm_ (a' := ?_) ?_ ?_
                    rotate_left
                    · show Act.put _ (some 7) _ = _
                      simp only [Act.put, List.setIfInBounds_toArray, List.set_cons_zero, List.set_cons_succ, i64_w, i32_w]
                      rfl
                    refine one_ (i := 5) (N := some 8) #[true, true, true, true, true, true, false, false, false, false, false, false, false, false, false, false, false, false, false, false, false, false, false, false, false, false, false, false, false, false, false, false, false, false, false, false, false, false, false, false, false, false, false, false, false, false, false, false, false, false, false, false, false, false, false, false, false, false, false, false, false, false, false, false, false, false, false, false, false] rfl rfl (one_of HT_.out (by kernel_rfl)) (by decide) (fun K hK => ?_)
                    refine goes_ Tryd.func21 (by kernel_rfl) rfl #[.agg #[.int .u8 t160, .int .i64 t161, .string t162], .string (⟨#[115, 117, 109]⟩ : ByteArray), .bool false, .slice Ao55 y172.length co55] (by rfl) rfl rfl (by (try simp only [List.map_toArray, List.map_cons, List.map_nil]); first | done | rfl | (simp only [List.length_drop, List.length_take]; rfl)) ?_
                    with_reducible refine (cardindexlaw08_comes.calls t160 t161 t162 (⟨#[115, 117, 109]⟩ : ByteArray) false _ _ y172 true _ ?side1 ?side2 ?side3 A5.out).mono ?_
                    (case side1 => repeat (first | exact (R_reads' HO174.out).2.2 | (with_reducible refine Kd.C_alloc ?_ _) | (with_reducible refine Kd.C_drewN ?_ _) | (with_reducible refine Kd.C_drew ?_)))
                    (case side2 => exact (R_reads' HO174.out).2.1)
                    (case side3 => exact Glob.below (by repeat (first | (with_reducible first | exact HB.out | apply below_alloc | apply pw_below_drewN | apply below_drew1 | refine below_set ?_ GE159.out) | exact HB.out)) HG.out)
                    rintro e w56 ⟨rfl, hb⟩
                    refine ⟨_, rfl, ?_⟩
                    have n0_ := am (R_below (by (with_reducible repeat (first | apply R_alloc | apply R_drewN | apply R_drew)); exact HO174.out) hb)
                    have n1_ := am (blk_below (g := gb159) (o := .cells #[.int .u8 0, .int .i64 0, .string (⟨#[]⟩ : ByteArray)] 24 (0, 0)) (by (with_reducible repeat (first | refine blk_drewN ?_ _ | refine blk_drew ?_ | refine blk_alloc ?_ _)); exact BK159.out) hb)
                    have n2_ := am (below_step (by repeat (first | (with_reducible first | exact HB.out | apply below_alloc | apply pw_below_drewN | apply below_drew1 | refine below_set ?_ GE159.out) | exact HB.out)) hb)
                    clear HO174
                    clear BK159
                    clear HB
                    have HO174 := n0_
                    have BK159 := n1_
                    have HB := n2_
                    clear n0_ n1_ n2_
                    (try clear hb)
                    (try clear hb2)
                    (try clear hk)
                    (try clear hi)
                    refine hK.out _ _ ⟨(blk_cell BK159.out 0).trans rfl, (blk_cell BK159.out 1).trans rfl, (blk_cell BK159.out 2).trans rfl⟩ (fun hHeld => ?_)
                    clear hK K
                    refine norm_ (a' := ?_) ?_ ?_
                    rotate_left
                    · show Act.put _ (some 8) _ = _
                      simp only [Act.put, List.setIfInBounds_toArray, List.set_cons_zero, List.set_cons_succ, i64_w, i32_w]
                      rfl
                    refine pure_ (i := 6) (N := some 9) (v := ?_) (a' := ?_) #[true, true, true, true, true, true, true, false, false, false, false, false, false, false, false, false, false, false, false, false, false, false, false, false, false, false, false, false, false, false, false, false, false, false, false, false, false, false, false, false, false, false, false, false, false, false, false, false, false, false, false, false, false, false, false, false, false, false, false, false, false, false, false, false, false, false, false, false, false] rfl rfl (any_of HT_.out (by kernel_rfl)) (fun _ _ _ h => h) (Or.inl ⟨by rfl, ?_⟩) ?_ ?_
                    rotate_left
                    · intro w'
                      go_simp
                      with_reducible rfl
                    rotate_left
                    · simp only [Act.put, List.setIfInBounds_toArray, List.set_cons_zero, List.set_cons_succ, i64_w, i32_w]
                      rfl
                    refine one_ (i := 7) (N := some 10) #[true, true, true, true, true, true, true, true, false, false, false, false, false, false, false, false, false, false, false, false, false, false, false, false, false, false, false, false, false, false, false, false, false, false, false, false, false, false, false, false, false, false, false, false, false, false, false, false, false, false, false, false, false, false, false, false, false, false, false, false, false, false, false, false, false, false, false, false, false] rfl rfl (one_of HT_.out (by kernel_rfl)) (by decide) (fun K hK => ?_)
                    refine goes_ Tryd.func17 (by kernel_rfl) rfl #[.int .i64 9223372036854775807] (by rfl) rfl rfl (by (try simp only [List.map_toArray, List.map_cons, List.map_nil]); first | done | rfl | (simp only [List.length_drop, List.length_take]; rfl)) ?_
                    with_reducible refine (cardindexlaw08_num.calls 9223372036854775807 t176 t177 t178 _ A7.out).mono ?_
                    rintro e w57 ⟨rfl, hb⟩
                    refine ⟨_, rfl, ?_⟩
                    have n0_ := am (R_below (by (with_reducible repeat (first | apply R_alloc | apply R_drewN | apply R_drew)); exact HO174.out) hb)
                    have n1_ := am (blk_below (g := gb159) (o := .cells #[.int .u8 0, .int .i64 0, .string (⟨#[]⟩ : ByteArray)] 24 (0, 0)) (by (with_reducible repeat (first | refine blk_drewN ?_ _ | refine blk_drew ?_ | refine blk_alloc ?_ _)); exact BK159.out) hb)
                    have n2_ := am (below_step (by repeat (first | (with_reducible first | exact HB.out | apply below_alloc | apply pw_below_drewN | apply below_drew1 | refine below_set ?_ GE159.out) | exact HB.out)) hb)
                    clear HO174
                    clear BK159
                    clear HB
                    have HO174 := n0_
                    have BK159 := n1_
                    have HB := n2_
                    clear n0_ n1_ n2_
                    (try clear hb)
                    (try clear hb2)
                    (try clear hk)
                    (try clear hi)
                    refine hK.out _ _ ⟨(blk_cell BK159.out 0).trans rfl, (blk_cell BK159.out 1).trans rfl, (blk_cell BK159.out 2).trans rfl⟩ (fun hHeld => ?_)
                    clear hK K
                    refine norm_ (a' := ?_) ?_ ?_
                    rotate_left
                    · show Act.put _ (some 10) _ = _
                      simp only [Act.put, List.setIfInBounds_toArray, List.set_cons_zero, List.set_cons_succ, i64_w, i32_w]
                      rfl
                    refine one_ (i := 8) (N := some 11) #[true, true, true, true, true, true, true, true, true, false, false, false, false, false, false, false, false, false, false, false, false, false, false, false, false, false, false, false, false, false, false, false, false, false, false, false, false, false, false, false, false, false, false, false, false, false, false, false, false, false, false, false, false, false, false, false, false, false, false, false, false, false, false, false, false, false, false, false, false] rfl rfl (one_of HT_.out (by kernel_rfl)) (by decide) (fun K hK => ?_)
                    refine goes_ Tryd.func17 (by kernel_rfl) rfl #[.int .i64 1] (by rfl) rfl rfl (by (try simp only [List.map_toArray, List.map_cons, List.map_nil]); first | done | rfl | (simp only [List.length_drop, List.length_take]; rfl)) ?_
                    with_reducible refine (cardindexlaw08_num.calls 1 t179 t180 t181 _ A8.out).mono ?_
                    rintro e w58 ⟨rfl, hb⟩
                    refine ⟨_, rfl, ?_⟩
                    have n0_ := am (R_below (by (with_reducible repeat (first | apply R_alloc | apply R_drewN | apply R_drew)); exact HO174.out) hb)
                    have n1_ := am (blk_below (g := gb159) (o := .cells #[.int .u8 0, .int .i64 0, .string (⟨#[]⟩ : ByteArray)] 24 (0, 0)) (by (with_reducible repeat (first | refine blk_drewN ?_ _ | refine blk_drew ?_ | refine blk_alloc ?_ _)); exact BK159.out) hb)
                    have n2_ := am (below_step (by repeat (first | (with_reducible first | exact HB.out | apply below_alloc | apply pw_below_drewN | apply below_drew1 | refine below_set ?_ GE159.out) | exact HB.out)) hb)
                    clear HO174
                    clear BK159
                    clear HB
                    have HO174 := n0_
                    have BK159 := n1_
                    have HB := n2_
                    clear n0_ n1_ n2_
                    (try clear hb)
                    (try clear hb2)
                    (try clear hk)
                    (try clear hi)
                    refine hK.out _ _ ⟨(blk_cell BK159.out 0).trans rfl, (blk_cell BK159.out 1).trans rfl, (blk_cell BK159.out 2).trans rfl⟩ (fun hHeld => ?_)
                    clear hK K
                    refine norm_ (a' := ?_) ?_ ?_
                    rotate_left
                    · show Act.put _ (some 11) _ = _
                      simp only [Act.put, List.setIfInBounds_toArray, List.set_cons_zero, List.set_cons_succ, i64_w, i32_w]
                      rfl
                    refine one_ (i := 9) (N := some 12) #[true, true, true, true, true, true, true, true, true, true, false, false, false, false, false, false, false, false, false, false, false, false, false, false, false, false, false, false, false, false, false, false, false, false, false, false, false, false, false, false, false, false, false, false, false, false, false, false, false, false, false, false, false, false, false, false, false, false, false, false, false, false, false, false, false, false, false, false, false] rfl rfl (one_of HT_.out (by kernel_rfl)) (by decide) (fun K hK => ?_)
                    refine R_lit_step k24 _ 24 ?hg (N := 12) ?hd (xs := ([(⟨t176, t177, t178⟩ : S24), (⟨t179, t180, t181⟩ : S24)] : List (S24))) (inner := [.int .u8 t176, .int .i64 t177, .string t178, .int .u8 t179, .int .i64 t180, .string t181]) (ok := fun _ => True) (okp := fun _ => True) ?hr ?hp (fun _ hk => hk) trivial (Below.refl _ _) (Nat.le_refl _) (by simp) ?_; (case hd => rfl); (case hg => rfl); (case hr => first | (go_simp; done) | (go_simp; rfl)); (case hp => exact (Reps.c3 (show Kd.M k24 _ _ _ (⟨t176, t177, t178⟩ : S24) [.int .u8 t176, .int .i64 t177, .string t178] from (k24_mkM _ _ _ (⟨t176, t177, t178⟩ : S24) )) (Reps.c3 (show Kd.M k24 _ _ _ (⟨t179, t180, t181⟩ : S24) [.int .u8 t179, .int .i64 t180, .string t181] from (k24_mkM _ _ _ (⟨t179, t180, t181⟩ : S24) )) (Reps.none _ _))))
                    intro v183 w59 ho60 hb hg_ hnew_
                    clear hg_ hnew_
                    (first | rw [← Ny182.out] at ho60 | (simp only [Int.reduceToNat] at ho60; rw [← Ny182.out] at ho60))
                    have n0_ := am (R_elder' (by (with_reducible repeat (first | apply R_alloc | apply R_drewN | apply R_drew)); exact HO174.out) (R_base ho60) hb)
                    have n1_ := am (R_lower (R_newB (R_new' ho60 (R_lt (by (with_reducible repeat (first | apply R_alloc | apply R_drewN | apply R_drew)); exact HO174.out))) (g := gb159) (o := .cells #[.int .u8 0, .int .i64 0, .string (⟨#[]⟩ : ByteArray)] 24 (0, 0)) (by (with_reducible repeat (first | refine blk_drewN ?_ _ | refine blk_drew ?_ | refine blk_alloc ?_ _)); exact BK159.out)) (below_size (by repeat (first | (with_reducible first | exact HB.out | apply below_alloc | apply pw_below_drewN | apply below_drew1 | refine below_set ?_ GE159.out) | exact HB.out))))
                    have n2_ := am (blk_below (g := gb159) (o := .cells #[.int .u8 0, .int .i64 0, .string (⟨#[]⟩ : ByteArray)] 24 (0, 0)) (by (with_reducible repeat (first | refine blk_drewN ?_ _ | refine blk_drew ?_ | refine blk_alloc ?_ _)); exact BK159.out) hb)
                    have n3_ := am (below_step (by repeat (first | (with_reducible first | exact HB.out | apply below_alloc | apply pw_below_drewN | apply below_drew1 | refine below_set ?_ GE159.out) | exact HB.out)) hb)
                    clear HO174
                    clear BK159
                    clear HB
                    have HO174 := n0_
                    have HO184 := n1_
                    have BK159 := n2_
                    have HB := n3_
                    clear n0_ n1_ n2_ n3_
                    clear hb ho60
                    obtain ⟨Ao61, co61, eo61⟩ := R_slice HO184.out
                    (first | subst eo61 | (injection eo61 with f1_ f2_ f3_; have f4_ := f1_.symm; have f5_ := f3_.symm; clear f1_ f2_ f3_; subst f4_; subst f5_))
                    refine hK.out _ _ ⟨(blk_cell BK159.out 0).trans rfl, (blk_cell BK159.out 1).trans rfl, (blk_cell BK159.out 2).trans rfl⟩ (fun hHeld => ?_)
                    clear hK K
                    refine norm_ (a' := ?_) ?_ ?_
                    rotate_left
                    · show Act.put _ (some 12) _ = _
                      simp only [Act.put, List.setIfInBounds_toArray, List.set_cons_zero, List.set_cons_succ, i64_w, i32_w]
                      rfl
                    refine one_ (i := 10) (N := some 13) #[true, true, true, true, true, true, true, true, true, true, true, false, false, false, false, false, false, false, false, false, false, false, false, false, false, false, false, false, false, false, false, false, false, false, false, false, false, false, false, false, false, false, false, false, false, false, false, false, false, false, false, false, false, false, false, false, false, false, false, false, false, false, false, false, false, false, false, false, false] rfl rfl (one_of HT_.out (by kernel_rfl)) (by decide) (fun K hK => ?_)
                    refine goes_ Tryd.func25 (by kernel_rfl) rfl #[.int .i64 20, .string (⟨#[115, 117, 109]⟩ : ByteArray), .slice Ao61 y182.length co61] (by rfl) rfl rfl (by (try simp only [List.map_toArray, List.map_cons, List.map_nil]); first | done | rfl | (simp only [List.length_drop, List.length_take]; rfl)) ?_
                    with_reducible refine (cardindexlaw08_errs.calls 20 (⟨#[115, 117, 109]⟩ : ByteArray) _ _ y182 true _ ?side1 ?side2 ?side3 A9.out).mono ?_
                    (case side1 => repeat (first | exact (R_reads' HO184.out).2.2 | (with_reducible refine Kd.C_alloc ?_ _) | (with_reducible refine Kd.C_drewN ?_ _) | (with_reducible refine Kd.C_drew ?_)))
                    (case side2 => exact (R_reads' HO184.out).2.1)
                    (case side3 => exact Glob.below (by repeat (first | (with_reducible first | exact HB.out | apply below_alloc | apply pw_below_drewN | apply below_drew1 | refine below_set ?_ GE159.out) | exact HB.out)) HG.out)
                    rintro e w62 ⟨rfl, hb⟩
                    refine ⟨_, rfl, ?_⟩
                    have n0_ := am (R_below (by (with_reducible repeat (first | apply R_alloc | apply R_drewN | apply R_drew)); exact HO174.out) hb)
                    have n1_ := am (R_below (by (with_reducible repeat (first | apply R_alloc | apply R_drewN | apply R_drew)); exact HO184.out) hb)
                    have n2_ := am (blk_below (g := gb159) (o := .cells #[.int .u8 0, .int .i64 0, .string (⟨#[]⟩ : ByteArray)] 24 (0, 0)) (by (with_reducible repeat (first | refine blk_drewN ?_ _ | refine blk_drew ?_ | refine blk_alloc ?_ _)); exact BK159.out) hb)
                    have n3_ := am (below_step (by repeat (first | (with_reducible first | exact HB.out | apply below_alloc | apply pw_below_drewN | apply below_drew1 | refine below_set ?_ GE159.out) | exact HB.out)) hb)
                    clear HO174
                    clear HO184
                    clear BK159
                    clear HB
                    have HO174 := n0_
                    have HO184 := n1_
                    have BK159 := n2_
                    have HB := n3_
                    clear n0_ n1_ n2_ n3_
                    (try clear hb)
                    (try clear hb2)
                    (try clear hk)
                    (try clear hi)
                    refine hK.out _ _ ⟨(blk_cell BK159.out 0).trans rfl, (blk_cell BK159.out 1).trans rfl, (blk_cell BK159.out 2).trans rfl⟩ (fun hHeld => ?_)
                    clear hK K
                    refine norm_ (a' := ?_) ?_ ?_
                    rotate_left
                    · show Act.put _ (some 13) _ = _
                      simp only [Act.put, List.setIfInBounds_toArray, List.set_cons_zero, List.set_cons_succ, i64_w, i32_w]
                      rfl
                    refine pure_ (i := 11) (N := some 14) (v := ?_) (a' := ?_) #[true, true, true, true, true, true, true, true, true, true, true, true, false, false, false, false, false, false, false, false, false, false, false, false, false, false, false, false, false, false, false, false, false, false, false, false, false, false, false, false, false, false, false, false, false, false, false, false, false, false, false, false, false, false, false, false, false, false, false, false, false, false, false, false, false, false, false, false, false] rfl rfl (any_of HT_.out (by kernel_rfl)) (fun _ _ _ h => h) (Or.inl ⟨by rfl, ?_⟩) ?_ ?_
                    rotate_left
                    · intro w'
                      go_simp
                      with_reducible rfl
                    rotate_left
                    · simp only [Act.put, List.setIfInBounds_toArray, List.set_cons_zero, List.set_cons_succ, i64_w, i32_w]
                      rfl
                    refine pure_ (i := 12) (N := some 15) (v := ?_) (a' := ?_) #[true, true, true, true, true, true, true, true, true, true, true, true, true, false, false, false, false, false, false, false, false, false, false, false, false, false, false, false, false, false, false, false, false, false, false, false, false, false, false, false, false, false, false, false, false, false, false, false, false, false, false, false, false, false, false, false, false, false, false, false, false, false, false, false, false, false, false, false, false] rfl rfl (any_of HT_.out (by kernel_rfl)) (fun _ _ _ h => h) (Or.inl ⟨by rfl, ?_⟩) ?_ ?_
                    rotate_left
                    · intro w'
                      go_simp
                      with_reducible rfl
                    rotate_left
                    · simp only [Act.put, List.setIfInBounds_toArray, List.set_cons_zero, List.set_cons_succ, i64_w, i32_w]
                      rfl
                    refine take_ (i := 13) (N := some 16) (v := ?_) (a' := ?_) #[true, true, true, true, true, true, true, true, true, true, true, true, true, true, false, false, false, false, false, false, false, false, false, false, false, false, false, false, false, false, false, false, false, false, false, false, false, false, false, false, false, false, false, false, false, false, false, false, false, false, false, false, false, false, false, false, false, false, false, false, false, false, false, false, false, false, false, false, false] rfl rfl (take_ofW HT_.out HW_.out (by kernel_rfl)) (fun _ _ _ h => h) (Or.inl ⟨by rfl, ?_⟩) hHeld ?_ ?_
                    rotate_left
                    · rintro w' ⟨s0, s1, s2⟩
                      go_simp
                      with_reducible rfl
                    rotate_left
                    · simp only [Act.put, List.setIfInBounds_toArray, List.set_cons_zero, List.set_cons_succ, i64_w, i32_w]
                      rfl
                    refine one_ (i := 14) (N := some 17) #[true, true, true, true, true, true, true, true, true, true, true, true, true, true, true, false, false, false, false, false, false, false, false, false, false, false, false, false, false, false, false, false, false, false, false, false, false, false, false, false, false, false, false, false, false, false, false, false, false, false, false, false, false, false, false, false, false, false, false, false, false, false, false, false, false, false, false, false, false] rfl rfl (one_of HT_.out (by kernel_rfl)) (by decide) (fun K hK => ?_)
                    refine goes_ Tryd.func21 (by kernel_rfl) rfl #[.agg #[.int .u8 0, .int .i64 0, .string (⟨#[]⟩ : ByteArray)], .string (⟨#[115, 117, 109]⟩ : ByteArray), .bool false, .slice none 0 0] (by rfl) rfl rfl (by (try simp only [List.map_toArray, List.map_cons, List.map_nil]); first | done | rfl | (simp only [List.length_drop, List.length_take]; rfl)) ?_
                    refine (cardindexlaw08_comes.calls 0 0 (⟨#[]⟩ : ByteArray) (⟨#[115, 117, 109]⟩ : ByteArray) false _ _ ([] : List (S24)) true _ ?side1 ?side2 ?side3 A11.out).mono ?_
                    (case side1 => exact Kd.C_nil _ _)
                    (case side2 => exact Nat.le_refl _)
                    (case side3 => exact Glob.below (by repeat (first | (with_reducible first | exact HB.out | apply below_alloc | apply pw_below_drewN | apply below_drew1 | refine below_set ?_ GE159.out) | exact HB.out)) HG.out)
                    rintro e w63 ⟨rfl, hb⟩
                    refine ⟨_, rfl, ?_⟩
                    have n0_ := am (R_below (by (with_reducible repeat (first | apply R_alloc | apply R_drewN | apply R_drew)); exact HO174.out) hb)
                    have n1_ := am (R_below (by (with_reducible repeat (first | apply R_alloc | apply R_drewN | apply R_drew)); exact HO184.out) hb)
                    have n2_ := am (blk_below (g := gb159) (o := .cells #[.int .u8 0, .int .i64 0, .string (⟨#[]⟩ : ByteArray)] 24 (0, 0)) (by (with_reducible repeat (first | refine blk_drewN ?_ _ | refine blk_drew ?_ | refine blk_alloc ?_ _)); exact BK159.out) hb)
                    have n3_ := am (below_step (by repeat (first | (with_reducible first | exact HB.out | apply below_alloc | apply pw_below_drewN | apply below_drew1 | refine below_set ?_ GE159.out) | exact HB.out)) hb)
                    clear HO174
                    clear HO184
                    clear BK159
                    clear HB
                    have HO174 := n0_
                    have HO184 := n1_
                    have BK159 := n2_
                    have HB := n3_
                    clear n0_ n1_ n2_ n3_
                    (try clear hb)
                    (try clear hb2)
                    (try clear hk)
                    (try clear hi)
                    refine hK.out _ _ ⟨(blk_cell BK159.out 0).trans rfl, (blk_cell BK159.out 1).trans rfl, (blk_cell BK159.out 2).trans rfl⟩ (fun hHeld => ?_)
                    clear hK K
                    refine norm_ (a' := ?_) ?_ ?_
                    rotate_left
                    · show Act.put _ (some 17) _ = _
                      simp only [Act.put, List.setIfInBounds_toArray, List.set_cons_zero, List.set_cons_succ, i64_w, i32_w]
                      rfl
                    refine pure_ (i := 15) (N := some 18) (v := ?_) (a' := ?_) #[true, true, true, true, true, true, true, true, true, true, true, true, true, true, true, true, false, false, false, false, false, false, false, false, false, false, false, false, false, false, false, false, false, false, false, false, false, false, false, false, false, false, false, false, false, false, false, false, false, false, false, false, false, false, false, false, false, false, false, false, false, false, false, false, false, false, false, false, false] rfl rfl (any_of HT_.out (by kernel_rfl)) (fun _ _ _ h => h) (Or.inl ⟨by rfl, ?_⟩) ?_ ?_
                    rotate_left
                    · intro w'
                      go_simp
                      with_reducible rfl
                    rotate_left
                    · simp only [Act.put, List.setIfInBounds_toArray, List.set_cons_zero, List.set_cons_succ, i64_w, i32_w]
                      rfl
                    refine pure_ (i := 16) (N := some 19) (v := ?_) (a' := ?_) #[true, true, true, true, true, true, true, true, true, true, true, true, true, true, true, true, true, false, false, false, false, false, false, false, false, false, false, false, false, false, false, false, false, false, false, false, false, false, false, false, false, false, false, false, false, false, false, false, false, false, false, false, false, false, false, false, false, false, false, false, false, false, false, false, false, false, false, false, false] rfl rfl (any_of HT_.out (by kernel_rfl)) (fun _ _ _ h => h) (Or.inl ⟨by rfl, ?_⟩) ?_ ?_
                    rotate_left
                    · intro w'
                      go_simp
                      with_reducible rfl
                    rotate_left
                    · simp only [Act.put, List.setIfInBounds_toArray, List.set_cons_zero, List.set_cons_succ, i64_w, i32_w]
                      rfl
                    refine one_ (i := 17) (N := some 20) #[true, true, true, true, true, true, true, true, true, true, true, true, true, true, true, true, true, true, false, false, false, false, false, false, false, false, false, false, false, false, false, false, false, false, false, false, false, false, false, false, false, false, false, false, false, false, false, false, false, false, false, false, false, false, false, false, false, false, false, false, false, false, false, false, false, false, false, false, false] rfl rfl (one_of HT_.out (by kernel_rfl)) (by decide) (fun K hK => ?_)
                    refine goes_ Tryd.func17 (by kernel_rfl) rfl #[.int .i64 0] (by rfl) rfl rfl (by (try simp only [List.map_toArray, List.map_cons, List.map_nil]); first | done | rfl | (simp only [List.length_drop, List.length_take]; rfl)) ?_
                    with_reducible refine (cardindexlaw08_num.calls 0 t187 t188 t189 _ A13.out).mono ?_
                    rintro e w64 ⟨rfl, hb⟩
                    refine ⟨_, rfl, ?_⟩
                    have n0_ := am (R_below (by (with_reducible repeat (first | apply R_alloc | apply R_drewN | apply R_drew)); exact HO174.out) hb)
                    have n1_ := am (R_below (by (with_reducible repeat (first | apply R_alloc | apply R_drewN | apply R_drew)); exact HO184.out) hb)
                    have n2_ := am (blk_below (g := gb159) (o := .cells #[.int .u8 0, .int .i64 0, .string (⟨#[]⟩ : ByteArray)] 24 (0, 0)) (by (with_reducible repeat (first | refine blk_drewN ?_ _ | refine blk_drew ?_ | refine blk_alloc ?_ _)); exact BK159.out) hb)
                    have n3_ := am (below_step (by repeat (first | (with_reducible first | exact HB.out | apply below_alloc | apply pw_below_drewN | apply below_drew1 | refine below_set ?_ GE159.out) | exact HB.out)) hb)
                    clear HO174
                    clear HO184
                    clear BK159
                    clear HB
                    have HO174 := n0_
                    have HO184 := n1_
                    have BK159 := n2_
                    have HB := n3_
                    clear n0_ n1_ n2_ n3_
                    (try clear hb)
                    (try clear hb2)
                    (try clear hk)
                    (try clear hi)
                    refine hK.out _ _ ⟨(blk_cell BK159.out 0).trans rfl, (blk_cell BK159.out 1).trans rfl, (blk_cell BK159.out 2).trans rfl⟩ (fun hHeld => ?_)
                    clear hK K
                    refine norm_ (a' := ?_) ?_ ?_
                    rotate_left
                    · show Act.put _ (some 20) _ = _
                      simp only [Act.put, List.setIfInBounds_toArray, List.set_cons_zero, List.set_cons_succ, i64_w, i32_w]
                      rfl
                    refine one_ (i := 18) (N := some 21) #[true, true, true, true, true, true, true, true, true, true, true, true, true, true, true, true, true, true, true, false, false, false, false, false, false, false, false, false, false, false, false, false, false, false, false, false, false, false, false, false, false, false, false, false, false, false, false, false, false, false, false, false, false, false, false, false, false, false, false, false, false, false, false, false, false, false, false, false, false] rfl rfl (one_of HT_.out (by kernel_rfl)) (by decide) (fun K hK => ?_)
                    refine goes_ Tryd.func21 (by kernel_rfl) rfl #[.agg #[.int .u8 t187, .int .i64 t188, .string t189], .string (⟨#[116, 111, 116, 97, 108]⟩ : ByteArray), .bool false, .slice none 0 0] (by rfl) rfl rfl (by (try simp only [List.map_toArray, List.map_cons, List.map_nil]); first | done | rfl | (simp only [List.length_drop, List.length_take]; rfl)) ?_
                    refine (cardindexlaw08_comes.calls t187 t188 t189 (⟨#[116, 111, 116, 97, 108]⟩ : ByteArray) false _ _ ([] : List (S24)) true _ ?side1 ?side2 ?side3 A14.out).mono ?_
                    (case side1 => exact Kd.C_nil _ _)
                    (case side2 => exact Nat.le_refl _)
                    (case side3 => exact Glob.below (by repeat (first | (with_reducible first | exact HB.out | apply below_alloc | apply pw_below_drewN | apply below_drew1 | refine below_set ?_ GE159.out) | exact HB.out)) HG.out)
                    rintro e w65 ⟨rfl, hb⟩
                    refine ⟨_, rfl, ?_⟩
                    have n0_ := am (R_below (by (with_reducible repeat (first | apply R_alloc | apply R_drewN | apply R_drew)); exact HO174.out) hb)
                    have n1_ := am (R_below (by (with_reducible repeat (first | apply R_alloc | apply R_drewN | apply R_drew)); exact HO184.out) hb)
                    have n2_ := am (blk_below (g := gb159) (o := .cells #[.int .u8 0, .int .i64 0, .string (⟨#[]⟩ : ByteArray)] 24 (0, 0)) (by (with_reducible repeat (first | refine blk_drewN ?_ _ | refine blk_drew ?_ | refine blk_alloc ?_ _)); exact BK159.out) hb)
                    have n3_ := am (below_step (by repeat (first | (with_reducible first | exact HB.out | apply below_alloc | apply pw_below_drewN | apply below_drew1 | refine below_set ?_ GE159.out) | exact HB.out)) hb)
                    clear HO174
                    clear HO184
                    clear BK159
                    clear HB
                    have HO174 := n0_
                    have HO184 := n1_
                    have BK159 := n2_
                    have HB := n3_
                    clear n0_ n1_ n2_ n3_
                    (try clear hb)
                    (try clear hb2)
                    (try clear hk)
                    (try clear hi)
                    refine hK.out _ _ ⟨(blk_cell BK159.out 0).trans rfl, (blk_cell BK159.out 1).trans rfl, (blk_cell BK159.out 2).trans rfl⟩ (fun hHeld => ?_)
                    clear hK K
                    refine norm_ (a' := ?_) ?_ ?_
                    rotate_left
                    · show Act.put _ (some 21) _ = _
                      simp only [Act.put, List.setIfInBounds_toArray, List.set_cons_zero, List.set_cons_succ, i64_w, i32_w]
                      rfl
                    refine pure_ (i := 19) (N := some 22) (v := ?_) (a' := ?_) #[true, true, true, true, true, true, true, true, true, true, true, true, true, true, true, true, true, true, true, true, false, false, false, false, false, false, false, false, false, false, false, false, false, false, false, false, false, false, false, false, false, false, false, false, false, false, false, false, false, false, false, false, false, false, false, false, false, false, false, false, false, false, false, false, false, false, false, false, false] rfl rfl (any_of HT_.out (by kernel_rfl)) (fun _ _ _ h => h) (Or.inl ⟨by rfl, ?_⟩) ?_ ?_
                    rotate_left
                    · intro w'
                      go_simp
                      with_reducible rfl
                    rotate_left
                    · simp only [Act.put, List.setIfInBounds_toArray, List.set_cons_zero, List.set_cons_succ, i64_w, i32_w]
                      rfl
                    refine pure_ (i := 20) (N := some 23) (v := ?_) (a' := ?_) #[true, true, true, true, true, true, true, true, true, true, true, true, true, true, true, true, true, true, true, true, true, false, false, false, false, false, false, false, false, false, false, false, false, false, false, false, false, false, false, false, false, false, false, false, false, false, false, false, false, false, false, false, false, false, false, false, false, false, false, false, false, false, false, false, false, false, false, false, false] rfl rfl (any_of HT_.out (by kernel_rfl)) (fun _ _ _ h => h) (Or.inl ⟨by rfl, ?_⟩) ?_ ?_
                    rotate_left
                    · intro w'
                      go_simp
                      with_reducible rfl
                    rotate_left
                    · simp only [Act.put, List.setIfInBounds_toArray, List.set_cons_zero, List.set_cons_succ, i64_w, i32_w]
                      rfl
                    refine take_ (i := 23) (N := some 26) (v := ?_) (a' := ?_) #[true, true, true, true, true, true, true, true, true, true, true, true, true, true, true, true, true, true, true, true, true, false, false, true, false, false, false, false, false, false, false, false, false, false, false, false, false, false, false, false, false, false, false, false, false, false, false, false, false, false, false, false, false, false, false, false, false, false, false, false, false, false, false, false, false, false, false, false, false] rfl rfl (take_ofW HT_.out HW_.out (by kernel_rfl)) (fun _ _ _ h => h) (Or.inl ⟨by rfl, ?_⟩) hHeld ?_ ?_
                    rotate_left
                    · rintro w' ⟨s0, s1, s2⟩
                      go_simp
                      with_reducible rfl
                    rotate_left
                    · simp only [Act.put, List.setIfInBounds_toArray, List.set_cons_zero, List.set_cons_succ, i64_w, i32_w]
                      rfl
                    refine one_ (i := 21) (N := some 24) #[true, true, true, true, true, true, true, true, true, true, true, true, true, true, true, true, true, true, true, true, true, true, false, true, false, false, false, false, false, false, false, false, false, false, false, false, false, false, false, false, false, false, false, false, false, false, false, false, false, false, false, false, false, false, false, false, false, false, false, false, false, false, false, false, false, false, false, false, false] rfl rfl (one_of HT_.out (by kernel_rfl)) (by decide) (fun K hK => ?_)
                    refine goes_ Tryd.func17 (by kernel_rfl) rfl #[.int .i64 2] (by rfl) rfl rfl (by (try simp only [List.map_toArray, List.map_cons, List.map_nil]); first | done | rfl | (simp only [List.length_drop, List.length_take]; rfl)) ?_
                    with_reducible refine (cardindexlaw08_num.calls 2 t191 t192 t193 _ A16.out).mono ?_
                    rintro e w66 ⟨rfl, hb⟩
                    refine ⟨_, rfl, ?_⟩
                    have n0_ := am (R_below (by (with_reducible repeat (first | apply R_alloc | apply R_drewN | apply R_drew)); exact HO174.out) hb)
                    have n1_ := am (R_below (by (with_reducible repeat (first | apply R_alloc | apply R_drewN | apply R_drew)); exact HO184.out) hb)
                    have n2_ := am (blk_below (g := gb159) (o := .cells #[.int .u8 0, .int .i64 0, .string (⟨#[]⟩ : ByteArray)] 24 (0, 0)) (by (with_reducible repeat (first | refine blk_drewN ?_ _ | refine blk_drew ?_ | refine blk_alloc ?_ _)); exact BK159.out) hb)
                    have n3_ := am (below_step (by repeat (first | (with_reducible first | exact HB.out | apply below_alloc | apply pw_below_drewN | apply below_drew1 | refine below_set ?_ GE159.out) | exact HB.out)) hb)
                    clear HO174
                    clear HO184
                    clear BK159
                    clear HB
                    have HO174 := n0_
                    have HO184 := n1_
                    have BK159 := n2_
                    have HB := n3_
                    clear n0_ n1_ n2_ n3_
                    (try clear hb)
                    (try clear hb2)
                    (try clear hk)
                    (try clear hi)
                    refine hK.out _ _ ⟨(blk_cell BK159.out 0).trans rfl, (blk_cell BK159.out 1).trans rfl, (blk_cell BK159.out 2).trans rfl⟩ (fun hHeld => ?_)
                    clear hK K
                    refine norm_ (a' := ?_) ?_ ?_
                    rotate_left
                    · show Act.put _ (some 24) _ = _
                      simp only [Act.put, List.setIfInBounds_toArray, List.set_cons_zero, List.set_cons_succ, i64_w, i32_w]
                      rfl
                    refine one_ (i := 22) (N := some 25) #[true, true, true, true, true, true, true, true, true, true, true, true, true, true, true, true, true, true, true, true, true, true, true, true, false, false, false, false, false, false, false, false, false, false, false, false, false, false, false, false, false, false, false, false, false, false, false, false, false, false, false, false, false, false, false, false, false, false, false, false, false, false, false, false, false, false, false, false, false] rfl rfl (one_of HT_.out (by kernel_rfl)) (by decide) (fun K hK => ?_)
                    refine goes_ Tryd.func17 (by kernel_rfl) rfl #[.int .i64 1] (by rfl) rfl rfl (by (try simp only [List.map_toArray, List.map_cons, List.map_nil]); first | done | rfl | (simp only [List.length_drop, List.length_take]; rfl)) ?_
                    with_reducible refine (cardindexlaw08_num.calls 1 t194 t195 t196 _ A17.out).mono ?_
                    rintro e w67 ⟨rfl, hb⟩
                    refine ⟨_, rfl, ?_⟩
                    have n0_ := am (R_below (by (with_reducible repeat (first | apply R_alloc | apply R_drewN | apply R_drew)); exact HO174.out) hb)
                    have n1_ := am (R_below (by (with_reducible repeat (first | apply R_alloc | apply R_drewN | apply R_drew)); exact HO184.out) hb)
                    have n2_ := am (blk_below (g := gb159) (o := .cells #[.int .u8 0, .int .i64 0, .string (⟨#[]⟩ : ByteArray)] 24 (0, 0)) (by (with_reducible repeat (first | refine blk_drewN ?_ _ | refine blk_drew ?_ | refine blk_alloc ?_ _)); exact BK159.out) hb)
                    have n3_ := am (below_step (by repeat (first | (with_reducible first | exact HB.out | apply below_alloc | apply pw_below_drewN | apply below_drew1 | refine below_set ?_ GE159.out) | exact HB.out)) hb)
                    clear HO174
                    clear HO184
                    clear BK159
                    clear HB
                    have HO174 := n0_
                    have HO184 := n1_
                    have BK159 := n2_
                    have HB := n3_
                    clear n0_ n1_ n2_ n3_
                    (try clear hb)
                    (try clear hb2)
                    (try clear hk)
                    (try clear hi)
                    refine hK.out _ _ ⟨(blk_cell BK159.out 0).trans rfl, (blk_cell BK159.out 1).trans rfl, (blk_cell BK159.out 2).trans rfl⟩ (fun hHeld => ?_)
                    clear hK K
                    refine norm_ (a' := ?_) ?_ ?_
                    rotate_left
                    · show Act.put _ (some 25) _ = _
                      simp only [Act.put, List.setIfInBounds_toArray, List.set_cons_zero, List.set_cons_succ, i64_w, i32_w]
                      rfl
                    refine one_ (i := 24) (N := some 27) #[true, true, true, true, true, true, true, true, true, true, true, true, true, true, true, true, true, true, true, true, true, true, true, true, true, false, false, false, false, false, false, false, false, false, false, false, false, false, false, false, false, false, false, false, false, false, false, false, false, false, false, false, false, false, false, false, false, false, false, false, false, false, false, false, false, false, false, false, false] rfl rfl (one_of HT_.out (by kernel_rfl)) (by decide) (fun K hK => ?_)
                    refine goes_ Tryd.func17 (by kernel_rfl) rfl #[.int .i64 1] (by rfl) rfl rfl (by (try simp only [List.map_toArray, List.map_cons, List.map_nil]); first | done | rfl | (simp only [List.length_drop, List.length_take]; rfl)) ?_
                    with_reducible refine (cardindexlaw08_num.calls 1 t197 t198 t199 _ A18.out).mono ?_
                    rintro e w68 ⟨rfl, hb⟩
                    refine ⟨_, rfl, ?_⟩
                    have n0_ := am (R_below (by (with_reducible repeat (first | apply R_alloc | apply R_drewN | apply R_drew)); exact HO174.out) hb)
                    have n1_ := am (R_below (by (with_reducible repeat (first | apply R_alloc | apply R_drewN | apply R_drew)); exact HO184.out) hb)
                    have n2_ := am (blk_below (g := gb159) (o := .cells #[.int .u8 0, .int .i64 0, .string (⟨#[]⟩ : ByteArray)] 24 (0, 0)) (by (with_reducible repeat (first | refine blk_drewN ?_ _ | refine blk_drew ?_ | refine blk_alloc ?_ _)); exact BK159.out) hb)
                    have n3_ := am (below_step (by repeat (first | (with_reducible first | exact HB.out | apply below_alloc | apply pw_below_drewN | apply below_drew1 | refine below_set ?_ GE159.out) | exact HB.out)) hb)
                    clear HO174
                    clear HO184
                    clear BK159
                    clear HB
                    have HO174 := n0_
                    have HO184 := n1_
                    have BK159 := n2_
                    have HB := n3_
                    clear n0_ n1_ n2_ n3_
                    (try clear hb)
                    (try clear hb2)
                    (try clear hk)
                    (try clear hi)
                    refine hK.out _ _ ⟨(blk_cell BK159.out 0).trans rfl, (blk_cell BK159.out 1).trans rfl, (blk_cell BK159.out 2).trans rfl⟩ (fun hHeld => ?_)
                    clear hK K
                    refine norm_ (a' := ?_) ?_ ?_
                    rotate_left
                    · show Act.put _ (some 27) _ = _
                      simp only [Act.put, List.setIfInBounds_toArray, List.set_cons_zero, List.set_cons_succ, i64_w, i32_w]
                      rfl
                    refine one_ (i := 25) (N := some 28) #[true, true, true, true, true, true, true, true, true, true, true, true, true, true, true, true, true, true, true, true, true, true, true, true, true, true, false, false, false, false, false, false, false, false, false, false, false, false, false, false, false, false, false, false, false, false, false, false, false, false, false, false, false, false, false, false, false, false, false, false, false, false, false, false, false, false, false, false, false] rfl rfl (one_of HT_.out (by kernel_rfl)) (by decide) (fun K hK => ?_)
                    refine R_lit_step k24 _ 24 ?hg (N := 28) ?hd (xs := ([(⟨t194, t195, t196⟩ : S24), (⟨0, 0, (⟨#[]⟩ : ByteArray)⟩ : S24), (⟨t197, t198, t199⟩ : S24)] : List (S24))) (inner := [.int .u8 t194, .int .i64 t195, .string t196, .int .u8 0, .int .i64 0, .string (⟨#[]⟩ : ByteArray), .int .u8 t197, .int .i64 t198, .string t199]) (ok := fun _ => True) (okp := fun _ => True) ?hr ?hp (fun _ hk => hk) trivial (Below.refl _ _) (Nat.le_refl _) (by simp) ?_; (case hd => rfl); (case hg => rfl); (case hr => first | (go_simp; done) | (go_simp; rfl)); (case hp => exact (Reps.c3 (show Kd.M k24 _ _ _ (⟨t194, t195, t196⟩ : S24) [.int .u8 t194, .int .i64 t195, .string t196] from (k24_mkM _ _ _ (⟨t194, t195, t196⟩ : S24) )) (Reps.c3 (show Kd.M k24 _ _ _ (⟨0, 0, (⟨#[]⟩ : ByteArray)⟩ : S24) [.int .u8 0, .int .i64 0, .string (⟨#[]⟩ : ByteArray)] from (k24_mkM _ _ _ (⟨0, 0, (⟨#[]⟩ : ByteArray)⟩ : S24) )) (Reps.c3 (show Kd.M k24 _ _ _ (⟨t197, t198, t199⟩ : S24) [.int .u8 t197, .int .i64 t198, .string t199] from (k24_mkM _ _ _ (⟨t197, t198, t199⟩ : S24) )) (Reps.none _ _)))))
                    intro v201 w69 ho70 hb hg_ hnew_
                    clear hg_ hnew_
                    (first | rw [← Ny200.out] at ho70 | (simp only [Int.reduceToNat] at ho70; rw [← Ny200.out] at ho70))
                    have n0_ := am (R_elder' (by (with_reducible repeat (first | apply R_alloc | apply R_drewN | apply R_drew)); exact HO174.out) (R_base ho70) hb)
                    have n1_ := am (R_elder' (by (with_reducible repeat (first | apply R_alloc | apply R_drewN | apply R_drew)); exact HO184.out) (R_base ho70) hb)
                    have n2_ := am (R_lower (R_newB (R_new' (R_new' ho70 (R_lt (by (with_reducible repeat (first | apply R_alloc | apply R_drewN | apply R_drew)); exact HO174.out))) (R_lt (by (with_reducible repeat (first | apply R_alloc | apply R_drewN | apply R_drew)); exact HO184.out))) (g := gb159) (o := .cells #[.int .u8 0, .int .i64 0, .string (⟨#[]⟩ : ByteArray)] 24 (0, 0)) (by (with_reducible repeat (first | refine blk_drewN ?_ _ | refine blk_drew ?_ | refine blk_alloc ?_ _)); exact BK159.out)) (below_size (by repeat (first | (with_reducible first | exact HB.out | apply below_alloc | apply pw_below_drewN | apply below_drew1 | refine below_set ?_ GE159.out) | exact HB.out))))
                    have n3_ := am (blk_below (g := gb159) (o := .cells #[.int .u8 0, .int .i64 0, .string (⟨#[]⟩ : ByteArray)] 24 (0, 0)) (by (with_reducible repeat (first | refine blk_drewN ?_ _ | refine blk_drew ?_ | refine blk_alloc ?_ _)); exact BK159.out) hb)
                    have n4_ := am (below_step (by repeat (first | (with_reducible first | exact HB.out | apply below_alloc | apply pw_below_drewN | apply below_drew1 | refine below_set ?_ GE159.out) | exact HB.out)) hb)
                    clear HO174
                    clear HO184
                    clear BK159
                    clear HB
                    have HO174 := n0_
                    have HO184 := n1_
                    have HO202 := n2_
                    have BK159 := n3_
                    have HB := n4_
                    clear n0_ n1_ n2_ n3_ n4_
                    clear hb ho70
                    obtain ⟨Ao71, co71, eo71⟩ := R_slice HO202.out
                    (first | subst eo71 | (injection eo71 with f1_ f2_ f3_; have f4_ := f1_.symm; have f5_ := f3_.symm; clear f1_ f2_ f3_; subst f4_; subst f5_))
                    refine hK.out _ _ ⟨(blk_cell BK159.out 0).trans rfl, (blk_cell BK159.out 1).trans rfl, (blk_cell BK159.out 2).trans rfl⟩ (fun hHeld => ?_)
                    clear hK K
                    refine norm_ (a' := ?_) ?_ ?_
                    rotate_left
                    · show Act.put _ (some 28) _ = _
                      simp only [Act.put, List.setIfInBounds_toArray, List.set_cons_zero, List.set_cons_succ, i64_w, i32_w]
                      rfl
                    refine one_ (i := 26) (N := some 29) #[true, true, true, true, true, true, true, true, true, true, true, true, true, true, true, true, true, true, true, true, true, true, true, true, true, true, true, false, false, false, false, false, false, false, false, false, false, false, false, false, false, false, false, false, false, false, false, false, false, false, false, false, false, false, false, false, false, false, false, false, false, false, false, false, false, false, false, false, false] rfl rfl (one_of HT_.out (by kernel_rfl)) (by decide) (fun K hK => ?_)
                    refine goes_ Tryd.func21 (by kernel_rfl) rfl #[.agg #[.int .u8 t191, .int .i64 t192, .string t193], .string (⟨#[99, 111, 117, 110, 116]⟩ : ByteArray), .bool false, .slice Ao71 y200.length co71] (by rfl) rfl rfl (by (try simp only [List.map_toArray, List.map_cons, List.map_nil]); first | done | rfl | (simp only [List.length_drop, List.length_take]; rfl)) ?_
                    with_reducible refine (cardindexlaw08_comes.calls t191 t192 t193 (⟨#[99, 111, 117, 110, 116]⟩ : ByteArray) false _ _ y200 true _ ?side1 ?side2 ?side3 A19.out).mono ?_
                    (case side1 => repeat (first | exact (R_reads' HO202.out).2.2 | (with_reducible refine Kd.C_alloc ?_ _) | (with_reducible refine Kd.C_drewN ?_ _) | (with_reducible refine Kd.C_drew ?_)))
                    (case side2 => exact (R_reads' HO202.out).2.1)
                    (case side3 => exact Glob.below (by repeat (first | (with_reducible first | exact HB.out | apply below_alloc | apply pw_below_drewN | apply below_drew1 | refine below_set ?_ GE159.out) | exact HB.out)) HG.out)
                    rintro e w72 ⟨rfl, hb⟩
                    refine ⟨_, rfl, ?_⟩
                    have n0_ := am (R_below (by (with_reducible repeat (first | apply R_alloc | apply R_drewN | apply R_drew)); exact HO174.out) hb)
                    have n1_ := am (R_below (by (with_reducible repeat (first | apply R_alloc | apply R_drewN | apply R_drew)); exact HO184.out) hb)
                    have n2_ := am (R_below (by (with_reducible repeat (first | apply R_alloc | apply R_drewN | apply R_drew)); exact HO202.out) hb)
                    have n3_ := am (blk_below (g := gb159) (o := .cells #[.int .u8 0, .int .i64 0, .string (⟨#[]⟩ : ByteArray)] 24 (0, 0)) (by (with_reducible repeat (first | refine blk_drewN ?_ _ | refine blk_drew ?_ | refine blk_alloc ?_ _)); exact BK159.out) hb)
                    have n4_ := am (below_step (by repeat (first | (with_reducible first | exact HB.out | apply below_alloc | apply pw_below_drewN | apply below_drew1 | refine below_set ?_ GE159.out) | exact HB.out)) hb)
                    clear HO174
                    clear HO184
                    clear HO202
                    clear BK159
                    clear HB
                    have HO174 := n0_
                    have HO184 := n1_
                    have HO202 := n2_
                    have BK159 := n3_
                    have HB := n4_
                    clear n0_ n1_ n2_ n3_ n4_
                    (try clear hb)
                    (try clear hb2)
                    (try clear hk)
                    (try clear hi)
                    refine hK.out _ _ ⟨(blk_cell BK159.out 0).trans rfl, (blk_cell BK159.out 1).trans rfl, (blk_cell BK159.out 2).trans rfl⟩ (fun hHeld => ?_)
                    clear hK K
                    refine norm_ (a' := ?_) ?_ ?_
                    rotate_left
                    · show Act.put _ (some 29) _ = _
                      simp only [Act.put, List.setIfInBounds_toArray, List.set_cons_zero, List.set_cons_succ, i64_w, i32_w]
                      rfl
                    refine pure_ (i := 27) (N := some 30) (v := ?_) (a' := ?_) #[true, true, true, true, true, true, true, true, true, true, true, true, true, true, true, true, true, true, true, true, true, true, true, true, true, true, true, true, false, false, false, false, false, false, false, false, false, false, false, false, false, false, false, false, false, false, false, false, false, false, false, false, false, false, false, false, false, false, false, false, false, false, false, false, false, false, false, false, false] rfl rfl (any_of HT_.out (by kernel_rfl)) (fun _ _ _ h => h) (Or.inl ⟨by rfl, ?_⟩) ?_ ?_
                    rotate_left
                    · intro w'
                      go_simp
                      with_reducible rfl
                    rotate_left
                    · simp only [Act.put, List.setIfInBounds_toArray, List.set_cons_zero, List.set_cons_succ, i64_w, i32_w]
                      rfl
                    refine pure_ (i := 28) (N := some 31) (v := ?_) (a' := ?_) #[true, true, true, true, true, true, true, true, true, true, true, true, true, true, true, true, true, true, true, true, true, true, true, true, true, true, true, true, true, false, false, false, false, false, false, false, false, false, false, false, false, false, false, false, false, false, false, false, false, false, false, false, false, false, false, false, false, false, false, false, false, false, false, false, false, false, false, false, false] rfl rfl (any_of HT_.out (by kernel_rfl)) (fun _ _ _ h => h) (Or.inl ⟨by rfl, ?_⟩) ?_ ?_
                    rotate_left
                    · intro w'
                      go_simp
                      with_reducible rfl
                    rotate_left
                    · simp only [Act.put, List.setIfInBounds_toArray, List.set_cons_zero, List.set_cons_succ, i64_w, i32_w]
                      rfl
                    refine take_ (i := 31) (N := some 34) (v := ?_) (a' := ?_) #[true, true, true, true, true, true, true, true, true, true, true, true, true, true, true, true, true, true, true, true, true, true, true, true, true, true, true, true, true, false, false, true, false, false, false, false, false, false, false, false, false, false, false, false, false, false, false, false, false, false, false, false, false, false, false, false, false, false, false, false, false, false, false, false, false, false, false, false, false] rfl rfl (take_ofW HT_.out HW_.out (by kernel_rfl)) (fun _ _ _ h => h) (Or.inl ⟨by rfl, ?_⟩) hHeld ?_ ?_
                    rotate_left
                    · rintro w' ⟨s0, s1, s2⟩
                      go_simp
                      with_reducible rfl
                    rotate_left
                    · simp only [Act.put, List.setIfInBounds_toArray, List.set_cons_zero, List.set_cons_succ, i64_w, i32_w]
                      rfl
                    refine one_ (i := 29) (N := some 32) #[true, true, true, true, true, true, true, true, true, true, true, true, true, true, true, true, true, true, true, true, true, true, true, true, true, true, true, true, true, true, false, true, false, false, false, false, false, false, false, false, false, false, false, false, false, false, false, false, false, false, false, false, false, false, false, false, false, false, false, false, false, false, false, false, false, false, false, false, false] rfl rfl (one_of HT_.out (by kernel_rfl)) (by decide) (fun K hK => ?_)
                    refine goes_ Tryd.func17 (by kernel_rfl) rfl #[.int .i64 1] (by rfl) rfl rfl (by (try simp only [List.map_toArray, List.map_cons, List.map_nil]); first | done | rfl | (simp only [List.length_drop, List.length_take]; rfl)) ?_
                    with_reducible refine (cardindexlaw08_num.calls 1 t204 t205 t206 _ A21.out).mono ?_
                    rintro e w73 ⟨rfl, hb⟩
                    refine ⟨_, rfl, ?_⟩
                    have n0_ := am (R_below (by (with_reducible repeat (first | apply R_alloc | apply R_drewN | apply R_drew)); exact HO174.out) hb)
                    have n1_ := am (R_below (by (with_reducible repeat (first | apply R_alloc | apply R_drewN | apply R_drew)); exact HO184.out) hb)
                    have n2_ := am (R_below (by (with_reducible repeat (first | apply R_alloc | apply R_drewN | apply R_drew)); exact HO202.out) hb)
                    have n3_ := am (blk_below (g := gb159) (o := .cells #[.int .u8 0, .int .i64 0, .string (⟨#[]⟩ : ByteArray)] 24 (0, 0)) (by (with_reducible repeat (first | refine blk_drewN ?_ _ | refine blk_drew ?_ | refine blk_alloc ?_ _)); exact BK159.out) hb)
                    have n4_ := am (below_step (by repeat (first | (with_reducible first | exact HB.out | apply below_alloc | apply pw_below_drewN | apply below_drew1 | refine below_set ?_ GE159.out) | exact HB.out)) hb)
                    clear HO174
                    clear HO184
                    clear HO202
                    clear BK159
                    clear HB
                    have HO174 := n0_
                    have HO184 := n1_
                    have HO202 := n2_
                    have BK159 := n3_
                    have HB := n4_
                    clear n0_ n1_ n2_ n3_ n4_
                    (try clear hb)
                    (try clear hb2)
                    (try clear hk)
                    (try clear hi)
                    refine hK.out _ _ ⟨(blk_cell BK159.out 0).trans rfl, (blk_cell BK159.out 1).trans rfl, (blk_cell BK159.out 2).trans rfl⟩ (fun hHeld => ?_)
                    clear hK K
                    refine norm_ (a' := ?_) ?_ ?_
                    rotate_left
                    · show Act.put _ (some 32) _ = _
                      simp only [Act.put, List.setIfInBounds_toArray, List.set_cons_zero, List.set_cons_succ, i64_w, i32_w]
                      rfl
                    refine one_ (i := 30) (N := some 33) #[true, true, true, true, true, true, true, true, true, true, true, true, true, true, true, true, true, true, true, true, true, true, true, true, true, true, true, true, true, true, true, true, false, false, false, false, false, false, false, false, false, false, false, false, false, false, false, false, false, false, false, false, false, false, false, false, false, false, false, false, false, false, false, false, false, false, false, false, false] rfl rfl (one_of HT_.out (by kernel_rfl)) (by decide) (fun K hK => ?_)
                    refine goes_ Tryd.func17 (by kernel_rfl) rfl #[.int .i64 1] (by rfl) rfl rfl (by (try simp only [List.map_toArray, List.map_cons, List.map_nil]); first | done | rfl | (simp only [List.length_drop, List.length_take]; rfl)) ?_
                    with_reducible refine (cardindexlaw08_num.calls 1 t207 t208 t209 _ A22.out).mono ?_
                    rintro e w74 ⟨rfl, hb⟩
                    refine ⟨_, rfl, ?_⟩
                    have n0_ := am (R_below (by (with_reducible repeat (first | apply R_alloc | apply R_drewN | apply R_drew)); exact HO174.out) hb)
                    have n1_ := am (R_below (by (with_reducible repeat (first | apply R_alloc | apply R_drewN | apply R_drew)); exact HO184.out) hb)
                    have n2_ := am (R_below (by (with_reducible repeat (first | apply R_alloc | apply R_drewN | apply R_drew)); exact HO202.out) hb)
                    have n3_ := am (blk_below (g := gb159) (o := .cells #[.int .u8 0, .int .i64 0, .string (⟨#[]⟩ : ByteArray)] 24 (0, 0)) (by (with_reducible repeat (first | refine blk_drewN ?_ _ | refine blk_drew ?_ | refine blk_alloc ?_ _)); exact BK159.out) hb)
                    have n4_ := am (below_step (by repeat (first | (with_reducible first | exact HB.out | apply below_alloc | apply pw_below_drewN | apply below_drew1 | refine below_set ?_ GE159.out) | exact HB.out)) hb)
                    clear HO174
                    clear HO184
                    clear HO202
                    clear BK159
                    clear HB
                    have HO174 := n0_
                    have HO184 := n1_
                    have HO202 := n2_
                    have BK159 := n3_
                    have HB := n4_
                    clear n0_ n1_ n2_ n3_ n4_
                    (try clear hb)
                    (try clear hb2)
                    (try clear hk)
                    (try clear hi)
                    refine hK.out _ _ ⟨(blk_cell BK159.out 0).trans rfl, (blk_cell BK159.out 1).trans rfl, (blk_cell BK159.out 2).trans rfl⟩ (fun hHeld => ?_)
                    clear hK K
                    refine norm_ (a' := ?_) ?_ ?_
                    rotate_left
                    · show Act.put _ (some 33) _ = _
                      simp only [Act.put, List.setIfInBounds_toArray, List.set_cons_zero, List.set_cons_succ, i64_w, i32_w]
                      rfl
                    refine one_ (i := 32) (N := some 35) #[true, true, true, true, true, true, true, true, true, true, true, true, true, true, true, true, true, true, true, true, true, true, true, true, true, true, true, true, true, true, true, true, true, false, false, false, false, false, false, false, false, false, false, false, false, false, false, false, false, false, false, false, false, false, false, false, false, false, false, false, false, false, false, false, false, false, false, false, false] rfl rfl (one_of HT_.out (by kernel_rfl)) (by decide) (fun K hK => ?_)
                    refine goes_ Tryd.func17 (by kernel_rfl) rfl #[.int .i64 1] (by rfl) rfl rfl (by (try simp only [List.map_toArray, List.map_cons, List.map_nil]); first | done | rfl | (simp only [List.length_drop, List.length_take]; rfl)) ?_
                    with_reducible refine (cardindexlaw08_num.calls 1 t210 t211 t212 _ A23.out).mono ?_
                    rintro e w75 ⟨rfl, hb⟩
                    refine ⟨_, rfl, ?_⟩
                    have n0_ := am (R_below (by (with_reducible repeat (first | apply R_alloc | apply R_drewN | apply R_drew)); exact HO174.out) hb)
                    have n1_ := am (R_below (by (with_reducible repeat (first | apply R_alloc | apply R_drewN | apply R_drew)); exact HO184.out) hb)
                    have n2_ := am (R_below (by (with_reducible repeat (first | apply R_alloc | apply R_drewN | apply R_drew)); exact HO202.out) hb)
                    have n3_ := am (blk_below (g := gb159) (o := .cells #[.int .u8 0, .int .i64 0, .string (⟨#[]⟩ : ByteArray)] 24 (0, 0)) (by (with_reducible repeat (first | refine blk_drewN ?_ _ | refine blk_drew ?_ | refine blk_alloc ?_ _)); exact BK159.out) hb)
                    have n4_ := am (below_step (by repeat (first | (with_reducible first | exact HB.out | apply below_alloc | apply pw_below_drewN | apply below_drew1 | refine below_set ?_ GE159.out) | exact HB.out)) hb)
                    clear HO174
                    clear HO184
                    clear HO202
                    clear BK159
                    clear HB
                    have HO174 := n0_
                    have HO184 := n1_
                    have HO202 := n2_
                    have BK159 := n3_
                    have HB := n4_
                    clear n0_ n1_ n2_ n3_ n4_
                    (try clear hb)
                    (try clear hb2)
                    (try clear hk)
                    (try clear hi)
                    refine hK.out _ _ ⟨(blk_cell BK159.out 0).trans rfl, (blk_cell BK159.out 1).trans rfl, (blk_cell BK159.out 2).trans rfl⟩ (fun hHeld => ?_)
                    clear hK K
                    refine norm_ (a' := ?_) ?_ ?_
                    rotate_left
                    · show Act.put _ (some 35) _ = _
                      simp only [Act.put, List.setIfInBounds_toArray, List.set_cons_zero, List.set_cons_succ, i64_w, i32_w]
                      rfl
                    refine one_ (i := 33) (N := some 36) #[true, true, true, true, true, true, true, true, true, true, true, true, true, true, true, true, true, true, true, true, true, true, true, true, true, true, true, true, true, true, true, true, true, true, false, false, false, false, false, false, false, false, false, false, false, false, false, false, false, false, false, false, false, false, false, false, false, false, false, false, false, false, false, false, false, false, false, false, false] rfl rfl (one_of HT_.out (by kernel_rfl)) (by decide) (fun K hK => ?_)
                    refine R_lit_step k24 _ 24 ?hg (N := 36) ?hd (xs := ([(⟨t207, t208, t209⟩ : S24), (⟨0, 0, (⟨#[]⟩ : ByteArray)⟩ : S24), (⟨t210, t211, t212⟩ : S24)] : List (S24))) (inner := [.int .u8 t207, .int .i64 t208, .string t209, .int .u8 0, .int .i64 0, .string (⟨#[]⟩ : ByteArray), .int .u8 t210, .int .i64 t211, .string t212]) (ok := fun _ => True) (okp := fun _ => True) ?hr ?hp (fun _ hk => hk) trivial (Below.refl _ _) (Nat.le_refl _) (by simp) ?_; (case hd => rfl); (case hg => rfl); (case hr => first | (go_simp; done) | (go_simp; rfl)); (case hp => exact (Reps.c3 (show Kd.M k24 _ _ _ (⟨t207, t208, t209⟩ : S24) [.int .u8 t207, .int .i64 t208, .string t209] from (k24_mkM _ _ _ (⟨t207, t208, t209⟩ : S24) )) (Reps.c3 (show Kd.M k24 _ _ _ (⟨0, 0, (⟨#[]⟩ : ByteArray)⟩ : S24) [.int .u8 0, .int .i64 0, .string (⟨#[]⟩ : ByteArray)] from (k24_mkM _ _ _ (⟨0, 0, (⟨#[]⟩ : ByteArray)⟩ : S24) )) (Reps.c3 (show Kd.M k24 _ _ _ (⟨t210, t211, t212⟩ : S24) [.int .u8 t210, .int .i64 t211, .string t212] from (k24_mkM _ _ _ (⟨t210, t211, t212⟩ : S24) )) (Reps.none _ _)))))
                    intro v214 w76 ho77 hb hg_ hnew_
                    clear hg_ hnew_
                    (first | rw [← Ny213.out] at ho77 | (simp only [Int.reduceToNat] at ho77; rw [← Ny213.out] at ho77))
                    have n0_ := am (R_elder' (by (with_reducible repeat (first | apply R_alloc | apply R_drewN | apply R_drew)); exact HO174.out) (R_base ho77) hb)
                    have n1_ := am (R_elder' (by (with_reducible repeat (first | apply R_alloc | apply R_drewN | apply R_drew)); exact HO184.out) (R_base ho77) hb)
                    have n2_ := am (R_elder' (by (with_reducible repeat (first | apply R_alloc | apply R_drewN | apply R_drew)); exact HO202.out) (R_base ho77) hb)
                    have n3_ := am (R_lower (R_newB (R_new' (R_new' (R_new' ho77 (R_lt (by (with_reducible repeat (first | apply R_alloc | apply R_drewN | apply R_drew)); exact HO174.out))) (R_lt (by (with_reducible repeat (first | apply R_alloc | apply R_drewN | apply R_drew)); exact HO184.out))) (R_lt (by (with_reducible repeat (first | apply R_alloc | apply R_drewN | apply R_drew)); exact HO202.out))) (g := gb159) (o := .cells #[.int .u8 0, .int .i64 0, .string (⟨#[]⟩ : ByteArray)] 24 (0, 0)) (by (with_reducible repeat (first | refine blk_drewN ?_ _ | refine blk_drew ?_ | refine blk_alloc ?_ _)); exact BK159.out)) (below_size (by repeat (first | (with_reducible first | exact HB.out | apply below_alloc | apply pw_below_drewN | apply below_drew1 | refine below_set ?_ GE159.out) | exact HB.out))))
                    have n4_ := am (blk_below (g := gb159) (o := .cells #[.int .u8 0, .int .i64 0, .string (⟨#[]⟩ : ByteArray)] 24 (0, 0)) (by (with_reducible repeat (first | refine blk_drewN ?_ _ | refine blk_drew ?_ | refine blk_alloc ?_ _)); exact BK159.out) hb)
                    have n5_ := am (below_step (by repeat (first | (with_reducible first | exact HB.out | apply below_alloc | apply pw_below_drewN | apply below_drew1 | refine below_set ?_ GE159.out) | exact HB.out)) hb)
                    clear HO174
                    clear HO184
                    clear HO202
                    clear BK159
                    clear HB
                    have HO174 := n0_
                    have HO184 := n1_
                    have HO202 := n2_
                    have HO215 := n3_
                    have BK159 := n4_
                    have HB := n5_
                    clear n0_ n1_ n2_ n3_ n4_ n5_
                    clear hb ho77
                    obtain ⟨Ao78, co78, eo78⟩ := R_slice HO215.out
                    (first | subst eo78 | (injection eo78 with f1_ f2_ f3_; have f4_ := f1_.symm; have f5_ := f3_.symm; clear f1_ f2_ f3_; subst f4_; subst f5_))
                    refine hK.out _ _ ⟨(blk_cell BK159.out 0).trans rfl, (blk_cell BK159.out 1).trans rfl, (blk_cell BK159.out 2).trans rfl⟩ (fun hHeld => ?_)
                    clear hK K
                    refine norm_ (a' := ?_) ?_ ?_
                    rotate_left
                    · show Act.put _ (some 36) _ = _
                      simp only [Act.put, List.setIfInBounds_toArray, List.set_cons_zero, List.set_cons_succ, i64_w, i32_w]
                      rfl
                    refine one_ (i := 34) (N := some 37) #[true, true, true, true, true, true, true, true, true, true, true, true, true, true, true, true, true, true, true, true, true, true, true, true, true, true, true, true, true, true, true, true, true, true, true, false, false, false, false, false, false, false, false, false, false, false, false, false, false, false, false, false, false, false, false, false, false, false, false, false, false, false, false, false, false, false, false, false, false] rfl rfl (one_of HT_.out (by kernel_rfl)) (by decide) (fun K hK => ?_)
                    refine goes_ Tryd.func21 (by kernel_rfl) rfl #[.agg #[.int .u8 t204, .int .i64 t205, .string t206], .string (⟨#[99, 111, 117, 110, 116]⟩ : ByteArray), .bool true, .slice Ao78 y213.length co78] (by rfl) rfl rfl (by (try simp only [List.map_toArray, List.map_cons, List.map_nil]); first | done | rfl | (simp only [List.length_drop, List.length_take]; rfl)) ?_
                    with_reducible refine (cardindexlaw08_comes.calls t204 t205 t206 (⟨#[99, 111, 117, 110, 116]⟩ : ByteArray) true _ _ y213 true _ ?side1 ?side2 ?side3 A24.out).mono ?_
                    (case side1 => repeat (first | exact (R_reads' HO215.out).2.2 | (with_reducible refine Kd.C_alloc ?_ _) | (with_reducible refine Kd.C_drewN ?_ _) | (with_reducible refine Kd.C_drew ?_)))
                    (case side2 => exact (R_reads' HO215.out).2.1)
                    (case side3 => exact Glob.below (by repeat (first | (with_reducible first | exact HB.out | apply below_alloc | apply pw_below_drewN | apply below_drew1 | refine below_set ?_ GE159.out) | exact HB.out)) HG.out)
                    rintro e w79 ⟨rfl, hb⟩
                    refine ⟨_, rfl, ?_⟩
                    have n0_ := am (R_below (by (with_reducible repeat (first | apply R_alloc | apply R_drewN | apply R_drew)); exact HO174.out) hb)
                    have n1_ := am (R_below (by (with_reducible repeat (first | apply R_alloc | apply R_drewN | apply R_drew)); exact HO184.out) hb)
                    have n2_ := am (R_below (by (with_reducible repeat (first | apply R_alloc | apply R_drewN | apply R_drew)); exact HO202.out) hb)
                    have n3_ := am (R_below (by (with_reducible repeat (first | apply R_alloc | apply R_drewN | apply R_drew)); exact HO215.out) hb)
                    have n4_ := am (blk_below (g := gb159) (o := .cells #[.int .u8 0, .int .i64 0, .string (⟨#[]⟩ : ByteArray)] 24 (0, 0)) (by (with_reducible repeat (first | refine blk_drewN ?_ _ | refine blk_drew ?_ | refine blk_alloc ?_ _)); exact BK159.out) hb)
                    have n5_ := am (below_step (by repeat (first | (with_reducible first | exact HB.out | apply below_alloc | apply pw_below_drewN | apply below_drew1 | refine below_set ?_ GE159.out) | exact HB.out)) hb)
                    clear HO174
                    clear HO184
                    clear HO202
                    clear HO215
                    clear BK159
                    clear HB
                    have HO174 := n0_
                    have HO184 := n1_
                    have HO202 := n2_
                    have HO215 := n3_
                    have BK159 := n4_
                    have HB := n5_
                    clear n0_ n1_ n2_ n3_ n4_ n5_
                    (try clear hb)
                    (try clear hb2)
                    (try clear hk)
                    (try clear hi)
                    refine hK.out _ _ ⟨(blk_cell BK159.out 0).trans rfl, (blk_cell BK159.out 1).trans rfl, (blk_cell BK159.out 2).trans rfl⟩ (fun hHeld => ?_)
                    clear hK K
                    refine norm_ (a' := ?_) ?_ ?_
                    rotate_left
                    · show Act.put _ (some 37) _ = _
                      simp only [Act.put, List.setIfInBounds_toArray, List.set_cons_zero, List.set_cons_succ, i64_w, i32_w]
                      rfl
                    refine pure_ (i := 35) (N := some 38) (v := ?_) (a' := ?_) #[true, true, true, true, true, true, true, true, true, true, true, true, true, true, true, true, true, true, true, true, true, true, true, true, true, true, true, true, true, true, true, true, true, true, true, true, false, false, false, false, false, false, false, false, false, false, false, false, false, false, false, false, false, false, false, false, false, false, false, false, false, false, false, false, false, false, false, false, false] rfl rfl (any_of HT_.out (by kernel_rfl)) (fun _ _ _ h => h) (Or.inl ⟨by rfl, ?_⟩) ?_ ?_
                    rotate_left
                    · intro w'
                      go_simp
                      with_reducible rfl
                    rotate_left
                    · simp only [Act.put, List.setIfInBounds_toArray, List.set_cons_zero, List.set_cons_succ, i64_w, i32_w]
                      rfl
                    refine pure_ (i := 36) (N := some 39) (v := ?_) (a' := ?_) #[true, true, true, true, true, true, true, true, true, true, true, true, true, true, true, true, true, true, true, true, true, true, true, true, true, true, true, true, true, true, true, true, true, true, true, true, true, false, false, false, false, false, false, false, false, false, false, false, false, false, false, false, false, false, false, false, false, false, false, false, false, false, false, false, false, false, false, false, false] rfl rfl (any_of HT_.out (by kernel_rfl)) (fun _ _ _ h => h) (Or.inl ⟨by rfl, ?_⟩) ?_ ?_
                    rotate_left
                    · intro w'
                      go_simp
                      with_reducible rfl
                    rotate_left
                    · simp only [Act.put, List.setIfInBounds_toArray, List.set_cons_zero, List.set_cons_succ, i64_w, i32_w]
                      rfl
                    refine take_ (i := 39) (N := some 42) (v := ?_) (a' := ?_) #[true, true, true, true, true, true, true, true, true, true, true, true, true, true, true, true, true, true, true, true, true, true, true, true, true, true, true, true, true, true, true, true, true, true, true, true, true, false, false, true, false, false, false, false, false, false, false, false, false, false, false, false, false, false, false, false, false, false, false, false, false, false, false, false, false, false, false, false, false] rfl rfl (take_ofW HT_.out HW_.out (by kernel_rfl)) (fun _ _ _ h => h) (Or.inl ⟨by rfl, ?_⟩) hHeld ?_ ?_
                    rotate_left
                    · rintro w' ⟨s0, s1, s2⟩
                      go_simp
                      with_reducible rfl
                    rotate_left
                    · simp only [Act.put, List.setIfInBounds_toArray, List.set_cons_zero, List.set_cons_succ, i64_w, i32_w]
                      rfl
                    refine one_ (i := 37) (N := some 40) #[true, true, true, true, true, true, true, true, true, true, true, true, true, true, true, true, true, true, true, true, true, true, true, true, true, true, true, true, true, true, true, true, true, true, true, true, true, true, false, true, false, false, false, false, false, false, false, false, false, false, false, false, false, false, false, false, false, false, false, false, false, false, false, false, false, false, false, false, false] rfl rfl (one_of HT_.out (by kernel_rfl)) (by decide) (fun K hK => ?_)
                    refine goes_ Tryd.func17 (by kernel_rfl) rfl #[.int .i64 3] (by rfl) rfl rfl (by (try simp only [List.map_toArray, List.map_cons, List.map_nil]); first | done | rfl | (simp only [List.length_drop, List.length_take]; rfl)) ?_
                    with_reducible refine (cardindexlaw08_num.calls 3 t217 t218 t219 _ A26.out).mono ?_
                    rintro e w80 ⟨rfl, hb⟩
                    refine ⟨_, rfl, ?_⟩
                    have n0_ := am (R_below (by (with_reducible repeat (first | apply R_alloc | apply R_drewN | apply R_drew)); exact HO174.out) hb)
                    have n1_ := am (R_below (by (with_reducible repeat (first | apply R_alloc | apply R_drewN | apply R_drew)); exact HO184.out) hb)
                    have n2_ := am (R_below (by (with_reducible repeat (first | apply R_alloc | apply R_drewN | apply R_drew)); exact HO202.out) hb)
                    have n3_ := am (R_below (by (with_reducible repeat (first | apply R_alloc | apply R_drewN | apply R_drew)); exact HO215.out) hb)
                    have n4_ := am (blk_below (g := gb159) (o := .cells #[.int .u8 0, .int .i64 0, .string (⟨#[]⟩ : ByteArray)] 24 (0, 0)) (by (with_reducible repeat (first | refine blk_drewN ?_ _ | refine blk_drew ?_ | refine blk_alloc ?_ _)); exact BK159.out) hb)
                    have n5_ := am (below_step (by repeat (first | (with_reducible first | exact HB.out | apply below_alloc | apply pw_below_drewN | apply below_drew1 | refine below_set ?_ GE159.out) | exact HB.out)) hb)
                    clear HO174
                    clear HO184
                    clear HO202
                    clear HO215
                    clear BK159
                    clear HB
                    have HO174 := n0_
                    have HO184 := n1_
                    have HO202 := n2_
                    have HO215 := n3_
                    have BK159 := n4_
                    have HB := n5_
                    clear n0_ n1_ n2_ n3_ n4_ n5_
                    (try clear hb)
                    (try clear hb2)
                    (try clear hk)
                    (try clear hi)
                    refine hK.out _ _ ⟨(blk_cell BK159.out 0).trans rfl, (blk_cell BK159.out 1).trans rfl, (blk_cell BK159.out 2).trans rfl⟩ (fun hHeld => ?_)
                    clear hK K
                    refine norm_ (a' := ?_) ?_ ?_
                    rotate_left
                    · show Act.put _ (some 40) _ = _
                      simp only [Act.put, List.setIfInBounds_toArray, List.set_cons_zero, List.set_cons_succ, i64_w, i32_w]
                      rfl
                    refine one_ (i := 38) (N := some 41) #[true, true, true, true, true, true, true, true, true, true, true, true, true, true, true, true, true, true, true, true, true, true, true, true, true, true, true, true, true, true, true, true, true, true, true, true, true, true, true, true, false, false, false, false, false, false, false, false, false, false, false, false, false, false, false, false, false, false, false, false, false, false, false, false, false, false, false, false, false] rfl rfl (one_of HT_.out (by kernel_rfl)) (by decide) (fun K hK => ?_)
                    refine goes_ Tryd.func17 (by kernel_rfl) rfl #[.int .i64 1] (by rfl) rfl rfl (by (try simp only [List.map_toArray, List.map_cons, List.map_nil]); first | done | rfl | (simp only [List.length_drop, List.length_take]; rfl)) ?_
                    with_reducible refine (cardindexlaw08_num.calls 1 t220 t221 t222 _ A27.out).mono ?_
                    rintro e w81 ⟨rfl, hb⟩
                    refine ⟨_, rfl, ?_⟩
                    have n0_ := am (R_below (by (with_reducible repeat (first | apply R_alloc | apply R_drewN | apply R_drew)); exact HO174.out) hb)
                    have n1_ := am (R_below (by (with_reducible repeat (first | apply R_alloc | apply R_drewN | apply R_drew)); exact HO184.out) hb)
                    have n2_ := am (R_below (by (with_reducible repeat (first | apply R_alloc | apply R_drewN | apply R_drew)); exact HO202.out) hb)
                    have n3_ := am (R_below (by (with_reducible repeat (first | apply R_alloc | apply R_drewN | apply R_drew)); exact HO215.out) hb)
                    have n4_ := am (blk_below (g := gb159) (o := .cells #[.int .u8 0, .int .i64 0, .string (⟨#[]⟩ : ByteArray)] 24 (0, 0)) (by (with_reducible repeat (first | refine blk_drewN ?_ _ | refine blk_drew ?_ | refine blk_alloc ?_ _)); exact BK159.out) hb)
                    have n5_ := am (below_step (by repeat (first | (with_reducible first | exact HB.out | apply below_alloc | apply pw_below_drewN | apply below_drew1 | refine below_set ?_ GE159.out) | exact HB.out)) hb)
                    clear HO174
                    clear HO184
                    clear HO202
                    clear HO215
                    clear BK159
                    clear HB
                    have HO174 := n0_
                    have HO184 := n1_
                    have HO202 := n2_
                    have HO215 := n3_
                    have BK159 := n4_
                    have HB := n5_
                    clear n0_ n1_ n2_ n3_ n4_ n5_
                    (try clear hb)
                    (try clear hb2)
                    (try clear hk)
                    (try clear hi)
                    refine hK.out _ _ ⟨(blk_cell BK159.out 0).trans rfl, (blk_cell BK159.out 1).trans rfl, (blk_cell BK159.out 2).trans rfl⟩ (fun hHeld => ?_)
                    clear hK K
                    refine norm_ (a' := ?_) ?_ ?_
                    rotate_left
                    · show Act.put _ (some 41) _ = _
                      simp only [Act.put, List.setIfInBounds_toArray, List.set_cons_zero, List.set_cons_succ, i64_w, i32_w]
                      rfl
                    refine one_ (i := 40) (N := some 43) #[true, true, true, true, true, true, true, true, true, true, true, true, true, true, true, true, true, true, true, true, true, true, true, true, true, true, true, true, true, true, true, true, true, true, true, true, true, true, true, true, true, false, false, false, false, false, false, false, false, false, false, false, false, false, false, false, false, false, false, false, false, false, false, false, false, false, false, false, false] rfl rfl (one_of HT_.out (by kernel_rfl)) (by decide) (fun K hK => ?_)
                    refine goes_ Tryd.func17 (by kernel_rfl) rfl #[.int .i64 1] (by rfl) rfl rfl (by (try simp only [List.map_toArray, List.map_cons, List.map_nil]); first | done | rfl | (simp only [List.length_drop, List.length_take]; rfl)) ?_
                    with_reducible refine (cardindexlaw08_num.calls 1 t223 t224 t225 _ A28.out).mono ?_
                    rintro e w82 ⟨rfl, hb⟩
                    refine ⟨_, rfl, ?_⟩
                    have n0_ := am (R_below (by (with_reducible repeat (first | apply R_alloc | apply R_drewN | apply R_drew)); exact HO174.out) hb)
                    have n1_ := am (R_below (by (with_reducible repeat (first | apply R_alloc | apply R_drewN | apply R_drew)); exact HO184.out) hb)
                    have n2_ := am (R_below (by (with_reducible repeat (first | apply R_alloc | apply R_drewN | apply R_drew)); exact HO202.out) hb)
                    have n3_ := am (R_below (by (with_reducible repeat (first | apply R_alloc | apply R_drewN | apply R_drew)); exact HO215.out) hb)
                    have n4_ := am (blk_below (g := gb159) (o := .cells #[.int .u8 0, .int .i64 0, .string (⟨#[]⟩ : ByteArray)] 24 (0, 0)) (by (with_reducible repeat (first | refine blk_drewN ?_ _ | refine blk_drew ?_ | refine blk_alloc ?_ _)); exact BK159.out) hb)
                    have n5_ := am (below_step (by repeat (first | (with_reducible first | exact HB.out | apply below_alloc | apply pw_below_drewN | apply below_drew1 | refine below_set ?_ GE159.out) | exact HB.out)) hb)
                    clear HO174
                    clear HO184
                    clear HO202
                    clear HO215
                    clear BK159
                    clear HB
                    have HO174 := n0_
                    have HO184 := n1_
                    have HO202 := n2_
                    have HO215 := n3_
                    have BK159 := n4_
                    have HB := n5_
                    clear n0_ n1_ n2_ n3_ n4_ n5_
                    (try clear hb)
                    (try clear hb2)
                    (try clear hk)
                    (try clear hi)
                    refine hK.out _ _ ⟨(blk_cell BK159.out 0).trans rfl, (blk_cell BK159.out 1).trans rfl, (blk_cell BK159.out 2).trans rfl⟩ (fun hHeld => ?_)
                    clear hK K
                    refine norm_ (a' := ?_) ?_ ?_
                    rotate_left
                    · show Act.put _ (some 43) _ = _
                      simp only [Act.put, List.setIfInBounds_toArray, List.set_cons_zero, List.set_cons_succ, i64_w, i32_w]
                      rfl
                    refine one_ (i := 41) (N := some 44) #[true, true, true, true, true, true, true, true, true, true, true, true, true, true, true, true, true, true, true, true, true, true, true, true, true, true, true, true, true, true, true, true, true, true, true, true, true, true, true, true, true, true, false, false, false, false, false, false, false, false, false, false, false, false, false, false, false, false, false, false, false, false, false, false, false, false, false, false, false] rfl rfl (one_of HT_.out (by kernel_rfl)) (by decide) (fun K hK => ?_)
                    refine R_lit_step k24 _ 24 ?hg (N := 44) ?hd (xs := ([(⟨t220, t221, t222⟩ : S24), (⟨0, 0, (⟨#[]⟩ : ByteArray)⟩ : S24), (⟨t223, t224, t225⟩ : S24)] : List (S24))) (inner := [.int .u8 t220, .int .i64 t221, .string t222, .int .u8 0, .int .i64 0, .string (⟨#[]⟩ : ByteArray), .int .u8 t223, .int .i64 t224, .string t225]) (ok := fun _ => True) (okp := fun _ => True) ?hr ?hp (fun _ hk => hk) trivial (Below.refl _ _) (Nat.le_refl _) (by simp) ?_; (case hd => rfl); (case hg => rfl); (case hr => first | (go_simp; done) | (go_simp; rfl)); (case hp => exact (Reps.c3 (show Kd.M k24 _ _ _ (⟨t220, t221, t222⟩ : S24) [.int .u8 t220, .int .i64 t221, .string t222] from (k24_mkM _ _ _ (⟨t220, t221, t222⟩ : S24) )) (Reps.c3 (show Kd.M k24 _ _ _ (⟨0, 0, (⟨#[]⟩ : ByteArray)⟩ : S24) [.int .u8 0, .int .i64 0, .string (⟨#[]⟩ : ByteArray)] from (k24_mkM _ _ _ (⟨0, 0, (⟨#[]⟩ : ByteArray)⟩ : S24) )) (Reps.c3 (show Kd.M k24 _ _ _ (⟨t223, t224, t225⟩ : S24) [.int .u8 t223, .int .i64 t224, .string t225] from (k24_mkM _ _ _ (⟨t223, t224, t225⟩ : S24) )) (Reps.none _ _)))))
                    intro v227 w83 ho84 hb hg_ hnew_
                    clear hg_ hnew_
                    (first | rw [← Ny226.out] at ho84 | (simp only [Int.reduceToNat] at ho84; rw [← Ny226.out] at ho84))
                    have n0_ := am (R_elder' (by (with_reducible repeat (first | apply R_alloc | apply R_drewN | apply R_drew)); exact HO174.out) (R_base ho84) hb)
                    have n1_ := am (R_elder' (by (with_reducible repeat (first | apply R_alloc | apply R_drewN | apply R_drew)); exact HO184.out) (R_base ho84) hb)
                    have n2_ := am (R_elder' (by (with_reducible repeat (first | apply R_alloc | apply R_drewN | apply R_drew)); exact HO202.out) (R_base ho84) hb)
                    have n3_ := am (R_elder' (by (with_reducible repeat (first | apply R_alloc | apply R_drewN | apply R_drew)); exact HO215.out) (R_base ho84) hb)
                    have n4_ := am (R_lower (R_newB (R_new' (R_new' (R_new' (R_new' ho84 (R_lt (by (with_reducible repeat (first | apply R_alloc | apply R_drewN | apply R_drew)); exact HO174.out))) (R_lt (by (with_reducible repeat (first | apply R_alloc | apply R_drewN | apply R_drew)); exact HO184.out))) (R_lt (by (with_reducible repeat (first | apply R_alloc | apply R_drewN | apply R_drew)); exact HO202.out))) (R_lt (by (with_reducible repeat (first | apply R_alloc | apply R_drewN | apply R_drew)); exact HO215.out))) (g := gb159) (o := .cells #[.int .u8 0, .int .i64 0, .string (⟨#[]⟩ : ByteArray)] 24 (0, 0)) (by (with_reducible repeat (first | refine blk_drewN ?_ _ | refine blk_drew ?_ | refine blk_alloc ?_ _)); exact BK159.out)) (below_size (by repeat (first | (with_reducible first | exact HB.out | apply below_alloc | apply pw_below_drewN | apply below_drew1 | refine below_set ?_ GE159.out) | exact HB.out))))
                    have n5_ := am (blk_below (g := gb159) (o := .cells #[.int .u8 0, .int .i64 0, .string (⟨#[]⟩ : ByteArray)] 24 (0, 0)) (by (with_reducible repeat (first | refine blk_drewN ?_ _ | refine blk_drew ?_ | refine blk_alloc ?_ _)); exact BK159.out) hb)
                    have n6_ := am (below_step (by repeat (first | (with_reducible first | exact HB.out | apply below_alloc | apply pw_below_drewN | apply below_drew1 | refine below_set ?_ GE159.out) | exact HB.out)) hb)
                    clear HO174
                    clear HO184
                    clear HO202
                    clear HO215
                    clear BK159
                    clear HB
                    have HO174 := n0_
                    have HO184 := n1_
                    have HO202 := n2_
                    have HO215 := n3_
                    have HO228 := n4_
                    have BK159 := n5_
                    have HB := n6_
                    clear n0_ n1_ n2_ n3_ n4_ n5_ n6_
                    clear hb ho84
                    obtain ⟨Ao85, co85, eo85⟩ := R_slice HO228.out
                    (first | subst eo85 | (injection eo85 with f1_ f2_ f3_; have f4_ := f1_.symm; have f5_ := f3_.symm; clear f1_ f2_ f3_; subst f4_; subst f5_))
                    refine hK.out _ _ ⟨(blk_cell BK159.out 0).trans rfl, (blk_cell BK159.out 1).trans rfl, (blk_cell BK159.out 2).trans rfl⟩ (fun hHeld => ?_)
                    clear hK K
                    refine norm_ (a' := ?_) ?_ ?_
                    rotate_left
                    · show Act.put _ (some 44) _ = _
                      simp only [Act.put, List.setIfInBounds_toArray, List.set_cons_zero, List.set_cons_succ, i64_w, i32_w]
                      rfl
                    refine one_ (i := 42) (N := some 45) #[true, true, true, true, true, true, true, true, true, true, true, true, true, true, true, true, true, true, true, true, true, true, true, true, true, true, true, true, true, true, true, true, true, true, true, true, true, true, true, true, true, true, true, false, false, false, false, false, false, false, false, false, false, false, false, false, false, false, false, false, false, false, false, false, false, false, false, false, false] rfl rfl (one_of HT_.out (by kernel_rfl)) (by decide) (fun K hK => ?_)
                    refine goes_ Tryd.func21 (by kernel_rfl) rfl #[.agg #[.int .u8 t217, .int .i64 t218, .string t219], .string (⟨#[99, 111, 117, 110, 116, 42]⟩ : ByteArray), .bool false, .slice Ao85 y226.length co85] (by rfl) rfl rfl (by (try simp only [List.map_toArray, List.map_cons, List.map_nil]); first | done | rfl | (simp only [List.length_drop, List.length_take]; rfl)) ?_
                    with_reducible refine (cardindexlaw08_comes.calls t217 t218 t219 (⟨#[99, 111, 117, 110, 116, 42]⟩ : ByteArray) false _ _ y226 true _ ?side1 ?side2 ?side3 A29.out).mono ?_
                    (case side1 => repeat (first | exact (R_reads' HO228.out).2.2 | (with_reducible refine Kd.C_alloc ?_ _) | (with_reducible refine Kd.C_drewN ?_ _) | (with_reducible refine Kd.C_drew ?_)))
                    (case side2 => exact (R_reads' HO228.out).2.1)
                    (case side3 => exact Glob.below (by repeat (first | (with_reducible first | exact HB.out | apply below_alloc | apply pw_below_drewN | apply below_drew1 | refine below_set ?_ GE159.out) | exact HB.out)) HG.out)
                    rintro e w86 ⟨rfl, hb⟩
                    refine ⟨_, rfl, ?_⟩
                    have n0_ := am (R_below (by (with_reducible repeat (first | apply R_alloc | apply R_drewN | apply R_drew)); exact HO174.out) hb)
                    have n1_ := am (R_below (by (with_reducible repeat (first | apply R_alloc | apply R_drewN | apply R_drew)); exact HO184.out) hb)
                    have n2_ := am (R_below (by (with_reducible repeat (first | apply R_alloc | apply R_drewN | apply R_drew)); exact HO202.out) hb)
                    have n3_ := am (R_below (by (with_reducible repeat (first | apply R_alloc | apply R_drewN | apply R_drew)); exact HO215.out) hb)
                    have n4_ := am (R_below (by (with_reducible repeat (first | apply R_alloc | apply R_drewN | apply R_drew)); exact HO228.out) hb)
                    have n5_ := am (blk_below (g := gb159) (o := .cells #[.int .u8 0, .int .i64 0, .string (⟨#[]⟩ : ByteArray)] 24 (0, 0)) (by (with_reducible repeat (first | refine blk_drewN ?_ _ | refine blk_drew ?_ | refine blk_alloc ?_ _)); exact BK159.out) hb)
                    have n6_ := am (below_step (by repeat (first | (with_reducible first | exact HB.out | apply below_alloc | apply pw_below_drewN | apply below_drew1 | refine below_set ?_ GE159.out) | exact HB.out)) hb)
                    clear HO174
                    clear HO184
                    clear HO202
                    clear HO215
                    clear HO228
                    clear BK159
                    clear HB
                    have HO174 := n0_
                    have HO184 := n1_
                    have HO202 := n2_
                    have HO215 := n3_
                    have HO228 := n4_
                    have BK159 := n5_
                    have HB := n6_
                    clear n0_ n1_ n2_ n3_ n4_ n5_ n6_
                    (try clear hb)
                    (try clear hb2)
                    (try clear hk)
                    (try clear hi)
                    refine hK.out _ _ ⟨(blk_cell BK159.out 0).trans rfl, (blk_cell BK159.out 1).trans rfl, (blk_cell BK159.out 2).trans rfl⟩ (fun hHeld => ?_)
                    clear hK K
                    refine norm_ (a' := ?_) ?_ ?_
                    rotate_left
                    · show Act.put _ (some 45) _ = _
                      simp only [Act.put, List.setIfInBounds_toArray, List.set_cons_zero, List.set_cons_succ, i64_w, i32_w]
                      rfl
                    refine pure_ (i := 43) (N := some 46) (v := ?_) (a' := ?_) #[true, true, true, true, true, true, true, true, true, true, true, true, true, true, true, true, true, true, true, true, true, true, true, true, true, true, true, true, true, true, true, true, true, true, true, true, true, true, true, true, true, true, true, true, false, false, false, false, false, false, false, false, false, false, false, false, false, false, false, false, false, false, false, false, false, false, false, false, false] rfl rfl (any_of HT_.out (by kernel_rfl)) (fun _ _ _ h => h) (Or.inl ⟨by rfl, ?_⟩) ?_ ?_
                    rotate_left
                    · intro w'
                      go_simp
                      with_reducible rfl
                    rotate_left
                    · simp only [Act.put, List.setIfInBounds_toArray, List.set_cons_zero, List.set_cons_succ, i64_w, i32_w]
                      rfl
                    refine pure_ (i := 44) (N := some 47) (v := ?_) (a' := ?_) #[true, true, true, true, true, true, true, true, true, true, true, true, true, true, true, true, true, true, true, true, true, true, true, true, true, true, true, true, true, true, true, true, true, true, true, true, true, true, true, true, true, true, true, true, true, false, false, false, false, false, false, false, false, false, false, false, false, false, false, false, false, false, false, false, false, false, false, false, false] rfl rfl (any_of HT_.out (by kernel_rfl)) (fun _ _ _ h => h) (Or.inl ⟨by rfl, ?_⟩) ?_ ?_
                    rotate_left
                    · intro w'
                      go_simp
                      with_reducible rfl
                    rotate_left
                    · simp only [Act.put, List.setIfInBounds_toArray, List.set_cons_zero, List.set_cons_succ, i64_w, i32_w]
                      rfl
                    refine take_ (i := 48) (N := some 51) (v := ?_) (a' := ?_) #[true, true, true, true, true, true, true, true, true, true, true, true, true, true, true, true, true, true, true, true, true, true, true, true, true, true, true, true, true, true, true, true, true, true, true, true, true, true, true, true, true, true, true, true, true, false, false, false, true, false, false, false, false, false, false, false, false, false, false, false, false, false, false, false, false, false, false, false, false] rfl rfl (take_ofW HT_.out HW_.out (by kernel_rfl)) (fun _ _ _ h => h) (Or.inl ⟨by rfl, ?_⟩) hHeld ?_ ?_
                    rotate_left
                    · rintro w' ⟨s0, s1, s2⟩
                      go_simp
                      with_reducible rfl
                    rotate_left
                    · simp only [Act.put, List.setIfInBounds_toArray, List.set_cons_zero, List.set_cons_succ, i64_w, i32_w]
                      rfl
                    refine one_ (i := 45) (N := some 48) #[true, true, true, true, true, true, true, true, true, true, true, true, true, true, true, true, true, true, true, true, true, true, true, true, true, true, true, true, true, true, true, true, true, true, true, true, true, true, true, true, true, true, true, true, true, true, false, false, true, false, false, false, false, false, false, false, false, false, false, false, false, false, false, false, false, false, false, false, false] rfl rfl (one_of HT_.out (by kernel_rfl)) (by decide) (fun K hK => ?_)
                    refine goes_ Tryd.func17 (by kernel_rfl) rfl #[.int .i64 5] (by rfl) rfl rfl (by (try simp only [List.map_toArray, List.map_cons, List.map_nil]); first | done | rfl | (simp only [List.length_drop, List.length_take]; rfl)) ?_
                    with_reducible refine (cardindexlaw08_num.calls 5 t230 t231 t232 _ A31.out).mono ?_
                    rintro e w87 ⟨rfl, hb⟩
                    refine ⟨_, rfl, ?_⟩
                    have n0_ := am (R_below (by (with_reducible repeat (first | apply R_alloc | apply R_drewN | apply R_drew)); exact HO174.out) hb)
                    have n1_ := am (R_below (by (with_reducible repeat (first | apply R_alloc | apply R_drewN | apply R_drew)); exact HO184.out) hb)
                    have n2_ := am (R_below (by (with_reducible repeat (first | apply R_alloc | apply R_drewN | apply R_drew)); exact HO202.out) hb)
                    have n3_ := am (R_below (by (with_reducible repeat (first | apply R_alloc | apply R_drewN | apply R_drew)); exact HO215.out) hb)
                    have n4_ := am (R_below (by (with_reducible repeat (first | apply R_alloc | apply R_drewN | apply R_drew)); exact HO228.out) hb)
                    have n5_ := am (blk_below (g := gb159) (o := .cells #[.int .u8 0, .int .i64 0, .string (⟨#[]⟩ : ByteArray)] 24 (0, 0)) (by (with_reducible repeat (first | refine blk_drewN ?_ _ | refine blk_drew ?_ | refine blk_alloc ?_ _)); exact BK159.out) hb)
                    have n6_ := am (below_step (by repeat (first | (with_reducible first | exact HB.out | apply below_alloc | apply pw_below_drewN | apply below_drew1 | refine below_set ?_ GE159.out) | exact HB.out)) hb)
                    clear HO174
                    clear HO184
                    clear HO202
                    clear HO215
                    clear HO228
                    clear BK159
                    clear HB
                    have HO174 := n0_
                    have HO184 := n1_
                    have HO202 := n2_
                    have HO215 := n3_
                    have HO228 := n4_
                    have BK159 := n5_
                    have HB := n6_
                    clear n0_ n1_ n2_ n3_ n4_ n5_ n6_
                    (try clear hb)
                    (try clear hb2)
                    (try clear hk)
                    (try clear hi)
                    refine hK.out _ _ ⟨(blk_cell BK159.out 0).trans rfl, (blk_cell BK159.out 1).trans rfl, (blk_cell BK159.out 2).trans rfl⟩ (fun hHeld => ?_)
                    clear hK K
                    refine norm_ (a' := ?_) ?_ ?_
                    rotate_left
                    · show Act.put _ (some 48) _ = _
                      simp only [Act.put, List.setIfInBounds_toArray, List.set_cons_zero, List.set_cons_succ, i64_w, i32_w]
                      rfl
                    refine one_ (i := 46) (N := some 49) #[true, true, true, true, true, true, true, true, true, true, true, true, true, true, true, true, true, true, true, true, true, true, true, true, true, true, true, true, true, true, true, true, true, true, true, true, true, true, true, true, true, true, true, true, true, true, true, false, true, false, false, false, false, false, false, false, false, false, false, false, false, false, false, false, false, false, false, false, false] rfl rfl (one_of HT_.out (by kernel_rfl)) (by decide) (fun K hK => ?_)
                    refine goes_ Tryd.func19 (by kernel_rfl) rfl #[.string (⟨#[97]⟩ : ByteArray)] (by rfl) rfl rfl (by (try simp only [List.map_toArray, List.map_cons, List.map_nil]); first | done | rfl | (simp only [List.length_drop, List.length_take]; rfl)) ?_
                    with_reducible refine (cardindexlaw08_text.calls (⟨#[97]⟩ : ByteArray) t233 t234 t235 _ A32.out).mono ?_
                    rintro e w88 ⟨rfl, hb⟩
                    refine ⟨_, rfl, ?_⟩
                    have n0_ := am (R_below (by (with_reducible repeat (first | apply R_alloc | apply R_drewN | apply R_drew)); exact HO174.out) hb)
                    have n1_ := am (R_below (by (with_reducible repeat (first | apply R_alloc | apply R_drewN | apply R_drew)); exact HO184.out) hb)
                    have n2_ := am (R_below (by (with_reducible repeat (first | apply R_alloc | apply R_drewN | apply R_drew)); exact HO202.out) hb)
                    have n3_ := am (R_below (by (with_reducible repeat (first | apply R_alloc | apply R_drewN | apply R_drew)); exact HO215.out) hb)
                    have n4_ := am (R_below (by (with_reducible repeat (first | apply R_alloc | apply R_drewN | apply R_drew)); exact HO228.out) hb)
                    have n5_ := am (blk_below (g := gb159) (o := .cells #[.int .u8 0, .int .i64 0, .string (⟨#[]⟩ : ByteArray)] 24 (0, 0)) (by (with_reducible repeat (first | refine blk_drewN ?_ _ | refine blk_drew ?_ | refine blk_alloc ?_ _)); exact BK159.out) hb)
                    have n6_ := am (below_step (by repeat (first | (with_reducible first | exact HB.out | apply below_alloc | apply pw_below_drewN | apply below_drew1 | refine below_set ?_ GE159.out) | exact HB.out)) hb)
                    clear HO174
                    clear HO184
                    clear HO202
                    clear HO215
                    clear HO228
                    clear BK159
                    clear HB
                    have HO174 := n0_
                    have HO184 := n1_
                    have HO202 := n2_
                    have HO215 := n3_
                    have HO228 := n4_
                    have BK159 := n5_
                    have HB := n6_
                    clear n0_ n1_ n2_ n3_ n4_ n5_ n6_
                    (try clear hb)
                    (try clear hb2)
                    (try clear hk)
                    (try clear hi)
                    refine hK.out _ _ ⟨(blk_cell BK159.out 0).trans rfl, (blk_cell BK159.out 1).trans rfl, (blk_cell BK159.out 2).trans rfl⟩ (fun hHeld => ?_)
                    clear hK K
                    refine norm_ (a' := ?_) ?_ ?_
                    rotate_left
                    · show Act.put _ (some 49) _ = _
                      simp only [Act.put, List.setIfInBounds_toArray, List.set_cons_zero, List.set_cons_succ, i64_w, i32_w]
                      rfl
                    refine one_ (i := 47) (N := some 50) #[true, true, true, true, true, true, true, true, true, true, true, true, true, true, true, true, true, true, true, true, true, true, true, true, true, true, true, true, true, true, true, true, true, true, true, true, true, true, true, true, true, true, true, true, true, true, true, true, true, false, false, false, false, false, false, false, false, false, false, false, false, false, false, false, false, false, false, false, false] rfl rfl (one_of HT_.out (by kernel_rfl)) (by decide) (fun K hK => ?_)
                    refine goes_ Tryd.func17 (by kernel_rfl) rfl #[.int .i64 5] (by rfl) rfl rfl (by (try simp only [List.map_toArray, List.map_cons, List.map_nil]); first | done | rfl | (simp only [List.length_drop, List.length_take]; rfl)) ?_
                    with_reducible refine (cardindexlaw08_num.calls 5 t236 t237 t238 _ A33.out).mono ?_
                    rintro e w89 ⟨rfl, hb⟩
                    refine ⟨_, rfl, ?_⟩
                    have n0_ := am (R_below (by (with_reducible repeat (first | apply R_alloc | apply R_drewN | apply R_drew)); exact HO174.out) hb)
                    have n1_ := am (R_below (by (with_reducible repeat (first | apply R_alloc | apply R_drewN | apply R_drew)); exact HO184.out) hb)
                    have n2_ := am (R_below (by (with_reducible repeat (first | apply R_alloc | apply R_drewN | apply R_drew)); exact HO202.out) hb)
                    have n3_ := am (R_below (by (with_reducible repeat (first | apply R_alloc | apply R_drewN | apply R_drew)); exact HO215.out) hb)
                    have n4_ := am (R_below (by (with_reducible repeat (first | apply R_alloc | apply R_drewN | apply R_drew)); exact HO228.out) hb)
                    have n5_ := am (blk_below (g := gb159) (o := .cells #[.int .u8 0, .int .i64 0, .string (⟨#[]⟩ : ByteArray)] 24 (0, 0)) (by (with_reducible repeat (first | refine blk_drewN ?_ _ | refine blk_drew ?_ | refine blk_alloc ?_ _)); exact BK159.out) hb)
                    have n6_ := am (below_step (by repeat (first | (with_reducible first | exact HB.out | apply below_alloc | apply pw_below_drewN | apply below_drew1 | refine below_set ?_ GE159.out) | exact HB.out)) hb)
                    clear HO174
                    clear HO184
                    clear HO202
                    clear HO215
                    clear HO228
                    clear BK159
                    clear HB
                    have HO174 := n0_
                    have HO184 := n1_
                    have HO202 := n2_
                    have HO215 := n3_
                    have HO228 := n4_
                    have BK159 := n5_
                    have HB := n6_
                    clear n0_ n1_ n2_ n3_ n4_ n5_ n6_
                    (try clear hb)
                    (try clear hb2)
                    (try clear hk)
                    (try clear hi)
                    refine hK.out _ _ ⟨(blk_cell BK159.out 0).trans rfl, (blk_cell BK159.out 1).trans rfl, (blk_cell BK159.out 2).trans rfl⟩ (fun hHeld => ?_)
                    clear hK K
                    refine norm_ (a' := ?_) ?_ ?_
                    rotate_left
                    · show Act.put _ (some 50) _ = _
                      simp only [Act.put, List.setIfInBounds_toArray, List.set_cons_zero, List.set_cons_succ, i64_w, i32_w]
                      rfl
                    refine one_ (i := 49) (N := some 52) #[true, true, true, true, true, true, true, true, true, true, true, true, true, true, true, true, true, true, true, true, true, true, true, true, true, true, true, true, true, true, true, true, true, true, true, true, true, true, true, true, true, true, true, true, true, true, true, true, true, true, false, false, false, false, false, false, false, false, false, false, false, false, false, false, false, false, false, false, false] rfl rfl (one_of HT_.out (by kernel_rfl)) (by decide) (fun K hK => ?_)
                    refine R_lit_step k24 _ 24 ?hg (N := 52) ?hd (xs := ([(⟨t233, t234, t235⟩ : S24), (⟨t236, t237, t238⟩ : S24), (⟨0, 0, (⟨#[]⟩ : ByteArray)⟩ : S24)] : List (S24))) (inner := [.int .u8 t233, .int .i64 t234, .string t235, .int .u8 t236, .int .i64 t237, .string t238, .int .u8 0, .int .i64 0, .string (⟨#[]⟩ : ByteArray)]) (ok := fun _ => True) (okp := fun _ => True) ?hr ?hp (fun _ hk => hk) trivial (Below.refl _ _) (Nat.le_refl _) (by simp) ?_; (case hd => rfl); (case hg => rfl); (case hr => first | (go_simp; done) | (go_simp; rfl)); (case hp => exact (Reps.c3 (show Kd.M k24 _ _ _ (⟨t233, t234, t235⟩ : S24) [.int .u8 t233, .int .i64 t234, .string t235] from (k24_mkM _ _ _ (⟨t233, t234, t235⟩ : S24) )) (Reps.c3 (show Kd.M k24 _ _ _ (⟨t236, t237, t238⟩ : S24) [.int .u8 t236, .int .i64 t237, .string t238] from (k24_mkM _ _ _ (⟨t236, t237, t238⟩ : S24) )) (Reps.c3 (show Kd.M k24 _ _ _ (⟨0, 0, (⟨#[]⟩ : ByteArray)⟩ : S24) [.int .u8 0, .int .i64 0, .string (⟨#[]⟩ : ByteArray)] from (k24_mkM _ _ _ (⟨0, 0, (⟨#[]⟩ : ByteArray)⟩ : S24) )) (Reps.none _ _)))))
                    intro v240 w90 ho91 hb hg_ hnew_
                    clear hg_ hnew_
                    (first | rw [← Ny239.out] at ho91 | (simp only [Int.reduceToNat] at ho91; rw [← Ny239.out] at ho91))
                    have n0_ := am (R_elder' (by (with_reducible repeat (first | apply R_alloc | apply R_drewN | apply R_drew)); exact HO174.out) (R_base ho91) hb)
                    have n1_ := am (R_elder' (by (with_reducible repeat (first | apply R_alloc | apply R_drewN | apply R_drew)); exact HO184.out) (R_base ho91) hb)
                    have n2_ := am (R_elder' (by (with_reducible repeat (first | apply R_alloc | apply R_drewN | apply R_drew)); exact HO202.out) (R_base ho91) hb)
                    have n3_ := am (R_elder' (by (with_reducible repeat (first | apply R_alloc | apply R_drewN | apply R_drew)); exact HO215.out) (R_base ho91) hb)
                    have n4_ := am (R_elder' (by (with_reducible repeat (first | apply R_alloc | apply R_drewN | apply R_drew)); exact HO228.out) (R_base ho91) hb)
                    have n5_ := am (R_lower (R_newB (R_new' (R_new' (R_new' (R_new' (R_new' ho91 (R_lt (by (with_reducible repeat (first | apply R_alloc | apply R_drewN | apply R_drew)); exact HO174.out))) (R_lt (by (with_reducible repeat (first | apply R_alloc | apply R_drewN | apply R_drew)); exact HO184.out))) (R_lt (by (with_reducible repeat (first | apply R_alloc | apply R_drewN | apply R_drew)); exact HO202.out))) (R_lt (by (with_reducible repeat (first | apply R_alloc | apply R_drewN | apply R_drew)); exact HO215.out))) (R_lt (by (with_reducible repeat (first | apply R_alloc | apply R_drewN | apply R_drew)); exact HO228.out))) (g := gb159) (o := .cells #[.int .u8 0, .int .i64 0, .string (⟨#[]⟩ : ByteArray)] 24 (0, 0)) (by (with_reducible repeat (first | refine blk_drewN ?_ _ | refine blk_drew ?_ | refine blk_alloc ?_ _)); exact BK159.out)) (below_size (by repeat (first | (with_reducible first | exact HB.out | apply below_alloc | apply pw_below_drewN | apply below_drew1 | refine below_set ?_ GE159.out) | exact HB.out))))
                    have n6_ := am (blk_below (g := gb159) (o := .cells #[.int .u8 0, .int .i64 0, .string (⟨#[]⟩ : ByteArray)] 24 (0, 0)) (by (with_reducible repeat (first | refine blk_drewN ?_ _ | refine blk_drew ?_ | refine blk_alloc ?_ _)); exact BK159.out) hb)
                    have n7_ := am (below_step (by repeat (first | (with_reducible first | exact HB.out | apply below_alloc | apply pw_below_drewN | apply below_drew1 | refine below_set ?_ GE159.out) | exact HB.out)) hb)
                    clear HO174
                    clear HO184
                    clear HO202
                    clear HO215
                    clear HO228
                    clear BK159
                    clear HB
                    have HO174 := n0_
                    have HO184 := n1_
                    have HO202 := n2_
                    have HO215 := n3_
                    have HO228 := n4_
                    have HO241 := n5_
                    have BK159 := n6_
                    have HB := n7_
                    clear n0_ n1_ n2_ n3_ n4_ n5_ n6_ n7_
                    clear hb ho91
                    obtain ⟨Ao92, co92, eo92⟩ := R_slice HO241.out
                    (first | subst eo92 | (injection eo92 with f1_ f2_ f3_; have f4_ := f1_.symm; have f5_ := f3_.symm; clear f1_ f2_ f3_; subst f4_; subst f5_))
                    refine hK.out _ _ ⟨(blk_cell BK159.out 0).trans rfl, (blk_cell BK159.out 1).trans rfl, (blk_cell BK159.out 2).trans rfl⟩ (fun hHeld => ?_)
                    clear hK K
                    refine norm_ (a' := ?_) ?_ ?_
                    rotate_left
                    · show Act.put _ (some 52) _ = _
                      simp only [Act.put, List.setIfInBounds_toArray, List.set_cons_zero, List.set_cons_succ, i64_w, i32_w]
                      rfl
                    refine one_ (i := 50) (N := some 53) #[true, true, true, true, true, true, true, true, true, true, true, true, true, true, true, true, true, true, true, true, true, true, true, true, true, true, true, true, true, true, true, true, true, true, true, true, true, true, true, true, true, true, true, true, true, true, true, true, true, true, true, false, false, false, false, false, false, false, false, false, false, false, false, false, false, false, false, false, false] rfl rfl (one_of HT_.out (by kernel_rfl)) (by decide) (fun K hK => ?_)
                    refine goes_ Tryd.func21 (by kernel_rfl) rfl #[.agg #[.int .u8 t230, .int .i64 t231, .string t232], .string (⟨#[109, 105, 110]⟩ : ByteArray), .bool false, .slice Ao92 y239.length co92] (by rfl) rfl rfl (by (try simp only [List.map_toArray, List.map_cons, List.map_nil]); first | done | rfl | (simp only [List.length_drop, List.length_take]; rfl)) ?_
                    with_reducible refine (cardindexlaw08_comes.calls t230 t231 t232 (⟨#[109, 105, 110]⟩ : ByteArray) false _ _ y239 true _ ?side1 ?side2 ?side3 A34.out).mono ?_
                    (case side1 => repeat (first | exact (R_reads' HO241.out).2.2 | (with_reducible refine Kd.C_alloc ?_ _) | (with_reducible refine Kd.C_drewN ?_ _) | (with_reducible refine Kd.C_drew ?_)))
                    (case side2 => exact (R_reads' HO241.out).2.1)
                    (case side3 => exact Glob.below (by repeat (first | (with_reducible first | exact HB.out | apply below_alloc | apply pw_below_drewN | apply below_drew1 | refine below_set ?_ GE159.out) | exact HB.out)) HG.out)
                    rintro e w93 ⟨rfl, hb⟩
                    refine ⟨_, rfl, ?_⟩
                    have n0_ := am (R_below (by (with_reducible repeat (first | apply R_alloc | apply R_drewN | apply R_drew)); exact HO174.out) hb)
                    have n1_ := am (R_below (by (with_reducible repeat (first | apply R_alloc | apply R_drewN | apply R_drew)); exact HO184.out) hb)
                    have n2_ := am (R_below (by (with_reducible repeat (first | apply R_alloc | apply R_drewN | apply R_drew)); exact HO202.out) hb)
                    have n3_ := am (R_below (by (with_reducible repeat (first | apply R_alloc | apply R_drewN | apply R_drew)); exact HO215.out) hb)
                    have n4_ := am (R_below (by (with_reducible repeat (first | apply R_alloc | apply R_drewN | apply R_drew)); exact HO228.out) hb)
                    have n5_ := am (R_below (by (with_reducible repeat (first | apply R_alloc | apply R_drewN | apply R_drew)); exact HO241.out) hb)
                    have n6_ := am (blk_below (g := gb159) (o := .cells #[.int .u8 0, .int .i64 0, .string (⟨#[]⟩ : ByteArray)] 24 (0, 0)) (by (with_reducible repeat (first | refine blk_drewN ?_ _ | refine blk_drew ?_ | refine blk_alloc ?_ _)); exact BK159.out) hb)
                    have n7_ := am (below_step (by repeat (first | (with_reducible first | exact HB.out | apply below_alloc | apply pw_below_drewN | apply below_drew1 | refine below_set ?_ GE159.out) | exact HB.out)) hb)
                    clear HO174
                    clear HO184
                    clear HO202
                    clear HO215
                    clear HO228
                    clear HO241
                    clear BK159
                    clear HB
                    have HO174 := n0_
                    have HO184 := n1_
                    have HO202 := n2_
                    have HO215 := n3_
                    have HO228 := n4_
                    have HO241 := n5_
                    have BK159 := n6_
                    have HB := n7_
                    clear n0_ n1_ n2_ n3_ n4_ n5_ n6_ n7_
                    (try clear hb)
                    (try clear hb2)
                    (try clear hk)
                    (try clear hi)
                    refine hK.out _ _ ⟨(blk_cell BK159.out 0).trans rfl, (blk_cell BK159.out 1).trans rfl, (blk_cell BK159.out 2).trans rfl⟩ (fun hHeld => ?_)
                    clear hK K
                    refine norm_ (a' := ?_) ?_ ?_
                    rotate_left
                    · show Act.put _ (some 53) _ = _
                      simp only [Act.put, List.setIfInBounds_toArray, List.set_cons_zero, List.set_cons_succ, i64_w, i32_w]
                      rfl
                    refine pure_ (i := 51) (N := some 54) (v := ?_) (a' := ?_) #[true, true, true, true, true, true, true, true, true, true, true, true, true, true, true, true, true, true, true, true, true, true, true, true, true, true, true, true, true, true, true, true, true, true, true, true, true, true, true, true, true, true, true, true, true, true, true, true, true, true, true, true, false, false, false, false, false, false, false, false, false, false, false, false, false, false, false, false, false] rfl rfl (any_of HT_.out (by kernel_rfl)) (fun _ _ _ h => h) (Or.inl ⟨by rfl, ?_⟩) ?_ ?_
                    rotate_left
                    · intro w'
                      go_simp
                      with_reducible rfl
                    rotate_left
                    · simp only [Act.put, List.setIfInBounds_toArray, List.set_cons_zero, List.set_cons_succ, i64_w, i32_w]
                      rfl
                    refine pure_ (i := 52) (N := some 55) (v := ?_) (a' := ?_) #[true, true, true, true, true, true, true, true, true, true, true, true, true, true, true, true, true, true, true, true, true, true, true, true, true, true, true, true, true, true, true, true, true, true, true, true, true, true, true, true, true, true, true, true, true, true, true, true, true, true, true, true, true, false, false, false, false, false, false, false, false, false, false, false, false, false, false, false, false] rfl rfl (any_of HT_.out (by kernel_rfl)) (fun _ _ _ h => h) (Or.inl ⟨by rfl, ?_⟩) ?_ ?_
                    rotate_left
                    · intro w'
                      go_simp
                      with_reducible rfl
                    rotate_left
                    · simp only [Act.put, List.setIfInBounds_toArray, List.set_cons_zero, List.set_cons_succ, i64_w, i32_w]
                      rfl
                    refine take_ (i := 56) (N := some 59) (v := ?_) (a' := ?_) #[true, true, true, true, true, true, true, true, true, true, true, true, true, true, true, true, true, true, true, true, true, true, true, true, true, true, true, true, true, true, true, true, true, true, true, true, true, true, true, true, true, true, true, true, true, true, true, true, true, true, true, true, true, false, false, false, true, false, false, false, false, false, false, false, false, false, false, false, false] rfl rfl (take_ofW HT_.out HW_.out (by kernel_rfl)) (fun _ _ _ h => h) (Or.inl ⟨by rfl, ?_⟩) hHeld ?_ ?_
                    rotate_left
                    · rintro w' ⟨s0, s1, s2⟩
                      go_simp
                      with_reducible rfl
                    rotate_left
                    · simp only [Act.put, List.setIfInBounds_toArray, List.set_cons_zero, List.set_cons_succ, i64_w, i32_w]
                      rfl
                    refine one_ (i := 53) (N := some 56) #[true, true, true, true, true, true, true, true, true, true, true, true, true, true, true, true, true, true, true, true, true, true, true, true, true, true, true, true, true, true, true, true, true, true, true, true, true, true, true, true, true, true, true, true, true, true, true, true, true, true, true, true, true, true, false, false, true, false, false, false, false, false, false, false, false, false, false, false, false] rfl rfl (one_of HT_.out (by kernel_rfl)) (by decide) (fun K hK => ?_)
                    refine goes_ Tryd.func19 (by kernel_rfl) rfl #[.string (⟨#[97]⟩ : ByteArray)] (by rfl) rfl rfl (by (try simp only [List.map_toArray, List.map_cons, List.map_nil]); first | done | rfl | (simp only [List.length_drop, List.length_take]; rfl)) ?_
                    with_reducible refine (cardindexlaw08_text.calls (⟨#[97]⟩ : ByteArray) t243 t244 t245 _ A36.out).mono ?_
                    rintro e w94 ⟨rfl, hb⟩
                    refine ⟨_, rfl, ?_⟩
                    have n0_ := am (R_below (by (with_reducible repeat (first | apply R_alloc | apply R_drewN | apply R_drew)); exact HO174.out) hb)
                    have n1_ := am (R_below (by (with_reducible repeat (first | apply R_alloc | apply R_drewN | apply R_drew)); exact HO184.out) hb)
                    have n2_ := am (R_below (by (with_reducible repeat (first | apply R_alloc | apply R_drewN | apply R_drew)); exact HO202.out) hb)
                    have n3_ := am (R_below (by (with_reducible repeat (first | apply R_alloc | apply R_drewN | apply R_drew)); exact HO215.out) hb)
                    have n4_ := am (R_below (by (with_reducible repeat (first | apply R_alloc | apply R_drewN | apply R_drew)); exact HO228.out) hb)
                    have n5_ := am (R_below (by (with_reducible repeat (first | apply R_alloc | apply R_drewN | apply R_drew)); exact HO241.out) hb)
                    have n6_ := am (blk_below (g := gb159) (o := .cells #[.int .u8 0, .int .i64 0, .string (⟨#[]⟩ : ByteArray)] 24 (0, 0)) (by (with_reducible repeat (first | refine blk_drewN ?_ _ | refine blk_drew ?_ | refine blk_alloc ?_ _)); exact BK159.out) hb)
                    have n7_ := am (below_step (by repeat (first | (with_reducible first | exact HB.out | apply below_alloc | apply pw_below_drewN | apply below_drew1 | refine below_set ?_ GE159.out) | exact HB.out)) hb)
                    clear HO174
                    clear HO184
                    clear HO202
                    clear HO215
                    clear HO228
                    clear HO241
                    clear BK159
                    clear HB
                    have HO174 := n0_
                    have HO184 := n1_
                    have HO202 := n2_
                    have HO215 := n3_
                    have HO228 := n4_
                    have HO241 := n5_
                    have BK159 := n6_
                    have HB := n7_
                    clear n0_ n1_ n2_ n3_ n4_ n5_ n6_ n7_
                    (try clear hb)
                    (try clear hb2)
                    (try clear hk)
                    (try clear hi)
                    refine hK.out _ _ ⟨(blk_cell BK159.out 0).trans rfl, (blk_cell BK159.out 1).trans rfl, (blk_cell BK159.out 2).trans rfl⟩ (fun hHeld => ?_)
                    clear hK K
                    refine norm_ (a' := ?_) ?_ ?_
                    rotate_left
                    · show Act.put _ (some 56) _ = _
                      simp only [Act.put, List.setIfInBounds_toArray, List.set_cons_zero, List.set_cons_succ, i64_w, i32_w]
                      rfl
                    refine one_ (i := 54) (N := some 57) #[true, true, true, true, true, true, true, true, true, true, true, true, true, true, true, true, true, true, true, true, true, true, true, true, true, true, true, true, true, true, true, true, true, true, true, true, true, true, true, true, true, true, true, true, true, true, true, true, true, true, true, true, true, true, true, false, true, false, false, false, false, false, false, false, false, false, false, false, false] rfl rfl (one_of HT_.out (by kernel_rfl)) (by decide) (fun K hK => ?_)
                    refine goes_ Tryd.func19 (by kernel_rfl) rfl #[.string (⟨#[97]⟩ : ByteArray)] (by rfl) rfl rfl (by (try simp only [List.map_toArray, List.map_cons, List.map_nil]); first | done | rfl | (simp only [List.length_drop, List.length_take]; rfl)) ?_
                    with_reducible refine (cardindexlaw08_text.calls (⟨#[97]⟩ : ByteArray) t246 t247 t248 _ A37.out).mono ?_
                    rintro e w95 ⟨rfl, hb⟩
                    refine ⟨_, rfl, ?_⟩
                    have n0_ := am (R_below (by (with_reducible repeat (first | apply R_alloc | apply R_drewN | apply R_drew)); exact HO174.out) hb)
                    have n1_ := am (R_below (by (with_reducible repeat (first | apply R_alloc | apply R_drewN | apply R_drew)); exact HO184.out) hb)
                    have n2_ := am (R_below (by (with_reducible repeat (first | apply R_alloc | apply R_drewN | apply R_drew)); exact HO202.out) hb)
                    have n3_ := am (R_below (by (with_reducible repeat (first | apply R_alloc | apply R_drewN | apply R_drew)); exact HO215.out) hb)
                    have n4_ := am (R_below (by (with_reducible repeat (first | apply R_alloc | apply R_drewN | apply R_drew)); exact HO228.out) hb)
                    have n5_ := am (R_below (by (with_reducible repeat (first | apply R_alloc | apply R_drewN | apply R_drew)); exact HO241.out) hb)
                    have n6_ := am (blk_below (g := gb159) (o := .cells #[.int .u8 0, .int .i64 0, .string (⟨#[]⟩ : ByteArray)] 24 (0, 0)) (by (with_reducible repeat (first | refine blk_drewN ?_ _ | refine blk_drew ?_ | refine blk_alloc ?_ _)); exact BK159.out) hb)
                    have n7_ := am (below_step (by repeat (first | (with_reducible first | exact HB.out | apply below_alloc | apply pw_below_drewN | apply below_drew1 | refine below_set ?_ GE159.out) | exact HB.out)) hb)
                    clear HO174
                    clear HO184
                    clear HO202
                    clear HO215
                    clear HO228
                    clear HO241
                    clear BK159
                    clear HB
                    have HO174 := n0_
                    have HO184 := n1_
                    have HO202 := n2_
                    have HO215 := n3_
                    have HO228 := n4_
                    have HO241 := n5_
                    have BK159 := n6_
                    have HB := n7_
                    clear n0_ n1_ n2_ n3_ n4_ n5_ n6_ n7_
                    (try clear hb)
                    (try clear hb2)
                    (try clear hk)
                    (try clear hi)
                    refine hK.out _ _ ⟨(blk_cell BK159.out 0).trans rfl, (blk_cell BK159.out 1).trans rfl, (blk_cell BK159.out 2).trans rfl⟩ (fun hHeld => ?_)
                    clear hK K
                    refine norm_ (a' := ?_) ?_ ?_
                    rotate_left
                    · show Act.put _ (some 57) _ = _
                      simp only [Act.put, List.setIfInBounds_toArray, List.set_cons_zero, List.set_cons_succ, i64_w, i32_w]
                      rfl
                    refine one_ (i := 55) (N := some 58) #[true, true, true, true, true, true, true, true, true, true, true, true, true, true, true, true, true, true, true, true, true, true, true, true, true, true, true, true, true, true, true, true, true, true, true, true, true, true, true, true, true, true, true, true, true, true, true, true, true, true, true, true, true, true, true, true, true, false, false, false, false, false, false, false, false, false, false, false, false] rfl rfl (one_of HT_.out (by kernel_rfl)) (by decide) (fun K hK => ?_)
                    refine goes_ Tryd.func17 (by kernel_rfl) rfl #[.int .i64 5] (by rfl) rfl rfl (by (try simp only [List.map_toArray, List.map_cons, List.map_nil]); first | done | rfl | (simp only [List.length_drop, List.length_take]; rfl)) ?_
                    with_reducible refine (cardindexlaw08_num.calls 5 t249 t250 t251 _ A38.out).mono ?_
                    rintro e w96 ⟨rfl, hb⟩
                    refine ⟨_, rfl, ?_⟩
                    have n0_ := am (R_below (by (with_reducible repeat (first | apply R_alloc | apply R_drewN | apply R_drew)); exact HO174.out) hb)
                    have n1_ := am (R_below (by (with_reducible repeat (first | apply R_alloc | apply R_drewN | apply R_drew)); exact HO184.out) hb)
                    have n2_ := am (R_below (by (with_reducible repeat (first | apply R_alloc | apply R_drewN | apply R_drew)); exact HO202.out) hb)
                    have n3_ := am (R_below (by (with_reducible repeat (first | apply R_alloc | apply R_drewN | apply R_drew)); exact HO215.out) hb)
                    have n4_ := am (R_below (by (with_reducible repeat (first | apply R_alloc | apply R_drewN | apply R_drew)); exact HO228.out) hb)
                    have n5_ := am (R_below (by (with_reducible repeat (first | apply R_alloc | apply R_drewN | apply R_drew)); exact HO241.out) hb)
                    have n6_ := am (blk_below (g := gb159) (o := .cells #[.int .u8 0, .int .i64 0, .string (⟨#[]⟩ : ByteArray)] 24 (0, 0)) (by (with_reducible repeat (first | refine blk_drewN ?_ _ | refine blk_drew ?_ | refine blk_alloc ?_ _)); exact BK159.out) hb)
                    have n7_ := am (below_step (by repeat (first | (with_reducible first | exact HB.out | apply below_alloc | apply pw_below_drewN | apply below_drew1 | refine below_set ?_ GE159.out) | exact HB.out)) hb)
                    clear HO174
                    clear HO184
                    clear HO202
                    clear HO215
                    clear HO228
                    clear HO241
                    clear BK159
                    clear HB
                    have HO174 := n0_
                    have HO184 := n1_
                    have HO202 := n2_
                    have HO215 := n3_
                    have HO228 := n4_
                    have HO241 := n5_
                    have BK159 := n6_
                    have HB := n7_
                    clear n0_ n1_ n2_ n3_ n4_ n5_ n6_ n7_
                    (try clear hb)
                    (try clear hb2)
                    (try clear hk)
                    (try clear hi)
                    refine hK.out _ _ ⟨(blk_cell BK159.out 0).trans rfl, (blk_cell BK159.out 1).trans rfl, (blk_cell BK159.out 2).trans rfl⟩ (fun hHeld => ?_)
                    clear hK K
                    refine norm_ (a' := ?_) ?_ ?_
                    rotate_left
                    · show Act.put _ (some 58) _ = _
                      simp only [Act.put, List.setIfInBounds_toArray, List.set_cons_zero, List.set_cons_succ, i64_w, i32_w]
                      rfl
                    refine one_ (i := 57) (N := some 60) #[true, true, true, true, true, true, true, true, true, true, true, true, true, true, true, true, true, true, true, true, true, true, true, true, true, true, true, true, true, true, true, true, true, true, true, true, true, true, true, true, true, true, true, true, true, true, true, true, true, true, true, true, true, true, true, true, true, true, false, false, false, false, false, false, false, false, false, false, false] rfl rfl (one_of HT_.out (by kernel_rfl)) (by decide) (fun K hK => ?_)
                    refine R_lit_step k24 _ 24 ?hg (N := 60) ?hd (xs := ([(⟨t246, t247, t248⟩ : S24), (⟨t249, t250, t251⟩ : S24), (⟨0, 0, (⟨#[]⟩ : ByteArray)⟩ : S24)] : List (S24))) (inner := [.int .u8 t246, .int .i64 t247, .string t248, .int .u8 t249, .int .i64 t250, .string t251, .int .u8 0, .int .i64 0, .string (⟨#[]⟩ : ByteArray)]) (ok := fun _ => True) (okp := fun _ => True) ?hr ?hp (fun _ hk => hk) trivial (Below.refl _ _) (Nat.le_refl _) (by simp) ?_; (case hd => rfl); (case hg => rfl); (case hr => first | (go_simp; done) | (go_simp; rfl)); (case hp => exact (Reps.c3 (show Kd.M k24 _ _ _ (⟨t246, t247, t248⟩ : S24) [.int .u8 t246, .int .i64 t247, .string t248] from (k24_mkM _ _ _ (⟨t246, t247, t248⟩ : S24) )) (Reps.c3 (show Kd.M k24 _ _ _ (⟨t249, t250, t251⟩ : S24) [.int .u8 t249, .int .i64 t250, .string t251] from (k24_mkM _ _ _ (⟨t249, t250, t251⟩ : S24) )) (Reps.c3 (show Kd.M k24 _ _ _ (⟨0, 0, (⟨#[]⟩ : ByteArray)⟩ : S24) [.int .u8 0, .int .i64 0, .string (⟨#[]⟩ : ByteArray)] from (k24_mkM _ _ _ (⟨0, 0, (⟨#[]⟩ : ByteArray)⟩ : S24) )) (Reps.none _ _)))))
                    intro v253 w97 ho98 hb hg_ hnew_
                    clear hg_ hnew_
                    (first | rw [← Ny252.out] at ho98 | (simp only [Int.reduceToNat] at ho98; rw [← Ny252.out] at ho98))
                    have n0_ := am (R_elder' (by (with_reducible repeat (first | apply R_alloc | apply R_drewN | apply R_drew)); exact HO174.out) (R_base ho98) hb)
                    have n1_ := am (R_elder' (by (with_reducible repeat (first | apply R_alloc | apply R_drewN | apply R_drew)); exact HO184.out) (R_base ho98) hb)
                    have n2_ := am (R_elder' (by (with_reducible repeat (first | apply R_alloc | apply R_drewN | apply R_drew)); exact HO202.out) (R_base ho98) hb)
                    have n3_ := am (R_elder' (by (with_reducible repeat (first | apply R_alloc | apply R_drewN | apply R_drew)); exact HO215.out) (R_base ho98) hb)
                    have n4_ := am (R_elder' (by (with_reducible repeat (first | apply R_alloc | apply R_drewN | apply R_drew)); exact HO228.out) (R_base ho98) hb)
                    have n5_ := am (R_elder' (by (with_reducible repeat (first | apply R_alloc | apply R_drewN | apply R_drew)); exact HO241.out) (R_base ho98) hb)
                    have n6_ := am (R_lower (R_newB (R_new' (R_new' (R_new' (R_new' (R_new' (R_new' ho98 (R_lt (by (with_reducible repeat (first | apply R_alloc | apply R_drewN | apply R_drew)); exact HO174.out))) (R_lt (by (with_reducible repeat (first | apply R_alloc | apply R_drewN | apply R_drew)); exact HO184.out))) (R_lt (by (with_reducible repeat (first | apply R_alloc | apply R_drewN | apply R_drew)); exact HO202.out))) (R_lt (by (with_reducible repeat (first | apply R_alloc | apply R_drewN | apply R_drew)); exact HO215.out))) (R_lt (by (with_reducible repeat (first | apply R_alloc | apply R_drewN | apply R_drew)); exact HO228.out))) (R_lt (by (with_reducible repeat (first | apply R_alloc | apply R_drewN | apply R_drew)); exact HO241.out))) (g := gb159) (o := .cells #[.int .u8 0, .int .i64 0, .string (⟨#[]⟩ : ByteArray)] 24 (0, 0)) (by (with_reducible repeat (first | refine blk_drewN ?_ _ | refine blk_drew ?_ | refine blk_alloc ?_ _)); exact BK159.out)) (below_size (by repeat (first | (with_reducible first | exact HB.out | apply below_alloc | apply pw_below_drewN | apply below_drew1 | refine below_set ?_ GE159.out) | exact HB.out))))
                    have n7_ := am (blk_below (g := gb159) (o := .cells #[.int .u8 0, .int .i64 0, .string (⟨#[]⟩ : ByteArray)] 24 (0, 0)) (by (with_reducible repeat (first | refine blk_drewN ?_ _ | refine blk_drew ?_ | refine blk_alloc ?_ _)); exact BK159.out) hb)
                    have n8_ := am (below_step (by repeat (first | (with_reducible first | exact HB.out | apply below_alloc | apply pw_below_drewN | apply below_drew1 | refine below_set ?_ GE159.out) | exact HB.out)) hb)
                    clear HO174
                    clear HO184
                    clear HO202
                    clear HO215
                    clear HO228
                    clear HO241
                    clear BK159
                    clear HB
                    have HO174 := n0_
                    have HO184 := n1_
                    have HO202 := n2_
                    have HO215 := n3_
                    have HO228 := n4_
                    have HO241 := n5_
                    have HO254 := n6_
                    have BK159 := n7_
                    have HB := n8_
                    clear n0_ n1_ n2_ n3_ n4_ n5_ n6_ n7_ n8_
                    clear hb ho98
                    obtain ⟨Ao99, co99, eo99⟩ := R_slice HO254.out
                    (first | subst eo99 | (injection eo99 with f1_ f2_ f3_; have f4_ := f1_.symm; have f5_ := f3_.symm; clear f1_ f2_ f3_; subst f4_; subst f5_))
                    refine hK.out _ _ ⟨(blk_cell BK159.out 0).trans rfl, (blk_cell BK159.out 1).trans rfl, (blk_cell BK159.out 2).trans rfl⟩ (fun hHeld => ?_)
                    clear hK K
                    refine norm_ (a' := ?_) ?_ ?_
                    rotate_left
                    · show Act.put _ (some 60) _ = _
                      simp only [Act.put, List.setIfInBounds_toArray, List.set_cons_zero, List.set_cons_succ, i64_w, i32_w]
                      rfl
                    refine one_ (i := 58) (N := some 61) #[true, true, true, true, true, true, true, true, true, true, true, true, true, true, true, true, true, true, true, true, true, true, true, true, true, true, true, true, true, true, true, true, true, true, true, true, true, true, true, true, true, true, true, true, true, true, true, true, true, true, true, true, true, true, true, true, true, true, true, false, false, false, false, false, false, false, false, false, false] rfl rfl (one_of HT_.out (by kernel_rfl)) (by decide) (fun K hK => ?_)
                    refine goes_ Tryd.func21 (by kernel_rfl) rfl #[.agg #[.int .u8 t243, .int .i64 t244, .string t245], .string (⟨#[109, 97, 120]⟩ : ByteArray), .bool false, .slice Ao99 y252.length co99] (by rfl) rfl rfl (by (try simp only [List.map_toArray, List.map_cons, List.map_nil]); first | done | rfl | (simp only [List.length_drop, List.length_take]; rfl)) ?_
                    with_reducible refine (cardindexlaw08_comes.calls t243 t244 t245 (⟨#[109, 97, 120]⟩ : ByteArray) false _ _ y252 true _ ?side1 ?side2 ?side3 A39.out).mono ?_
                    (case side1 => repeat (first | exact (R_reads' HO254.out).2.2 | (with_reducible refine Kd.C_alloc ?_ _) | (with_reducible refine Kd.C_drewN ?_ _) | (with_reducible refine Kd.C_drew ?_)))
                    (case side2 => exact (R_reads' HO254.out).2.1)
                    (case side3 => exact Glob.below (by repeat (first | (with_reducible first | exact HB.out | apply below_alloc | apply pw_below_drewN | apply below_drew1 | refine below_set ?_ GE159.out) | exact HB.out)) HG.out)
                    rintro e w100 ⟨rfl, hb⟩
                    refine ⟨_, rfl, ?_⟩
                    have n0_ := am (R_below (by (with_reducible repeat (first | apply R_alloc | apply R_drewN | apply R_drew)); exact HO174.out) hb)
                    have n1_ := am (R_below (by (with_reducible repeat (first | apply R_alloc | apply R_drewN | apply R_drew)); exact HO184.out) hb)
                    have n2_ := am (R_below (by (with_reducible repeat (first | apply R_alloc | apply R_drewN | apply R_drew)); exact HO202.out) hb)
                    have n3_ := am (R_below (by (with_reducible repeat (first | apply R_alloc | apply R_drewN | apply R_drew)); exact HO215.out) hb)
                    have n4_ := am (R_below (by (with_reducible repeat (first | apply R_alloc | apply R_drewN | apply R_drew)); exact HO228.out) hb)
                    have n5_ := am (R_below (by (with_reducible repeat (first | apply R_alloc | apply R_drewN | apply R_drew)); exact HO241.out) hb)
                    have n6_ := am (R_below (by (with_reducible repeat (first | apply R_alloc | apply R_drewN | apply R_drew)); exact HO254.out) hb)
                    have n7_ := am (blk_below (g := gb159) (o := .cells #[.int .u8 0, .int .i64 0, .string (⟨#[]⟩ : ByteArray)] 24 (0, 0)) (by (with_reducible repeat (first | refine blk_drewN ?_ _ | refine blk_drew ?_ | refine blk_alloc ?_ _)); exact BK159.out) hb)
                    have n8_ := am (below_step (by repeat (first | (with_reducible first | exact HB.out | apply below_alloc | apply pw_below_drewN | apply below_drew1 | refine below_set ?_ GE159.out) | exact HB.out)) hb)
                    clear HO174
                    clear HO184
                    clear HO202
                    clear HO215
                    clear HO228
                    clear HO241
                    clear HO254
                    clear BK159
                    clear HB
                    have HO174 := n0_
                    have HO184 := n1_
                    have HO202 := n2_
                    have HO215 := n3_
                    have HO228 := n4_
                    have HO241 := n5_
                    have HO254 := n6_
                    have BK159 := n7_
                    have HB := n8_
                    clear n0_ n1_ n2_ n3_ n4_ n5_ n6_ n7_ n8_
                    (try clear hb)
                    (try clear hb2)
                    (try clear hk)
                    (try clear hi)
                    refine hK.out _ _ ⟨(blk_cell BK159.out 0).trans rfl, (blk_cell BK159.out 1).trans rfl, (blk_cell BK159.out 2).trans rfl⟩ (fun hHeld => ?_)
                    clear hK K
                    refine norm_ (a' := ?_) ?_ ?_
                    rotate_left
                    · show Act.put _ (some 61) _ = _
                      simp only [Act.put, List.setIfInBounds_toArray, List.set_cons_zero, List.set_cons_succ, i64_w, i32_w]
                      rfl
                    refine pure_ (i := 59) (N := some 62) (v := ?_) (a' := ?_) #[true, true, true, true, true, true, true, true, true, true, true, true, true, true, true, true, true, true, true, true, true, true, true, true, true, true, true, true, true, true, true, true, true, true, true, true, true, true, true, true, true, true, true, true, true, true, true, true, true, true, true, true, true, true, true, true, true, true, true, true, false, false, false, false, false, false, false, false, false] rfl rfl (any_of HT_.out (by kernel_rfl)) (fun _ _ _ h => h) (Or.inl ⟨by rfl, ?_⟩) ?_ ?_
                    rotate_left
                    · intro w'
                      go_simp
                      with_reducible rfl
                    rotate_left
                    · simp only [Act.put, List.setIfInBounds_toArray, List.set_cons_zero, List.set_cons_succ, i64_w, i32_w]
                      rfl
                    refine pure_ (i := 60) (N := some 63) (v := ?_) (a' := ?_) #[true, true, true, true, true, true, true, true, true, true, true, true, true, true, true, true, true, true, true, true, true, true, true, true, true, true, true, true, true, true, true, true, true, true, true, true, true, true, true, true, true, true, true, true, true, true, true, true, true, true, true, true, true, true, true, true, true, true, true, true, true, false, false, false, false, false, false, false, false] rfl rfl (any_of HT_.out (by kernel_rfl)) (fun _ _ _ h => h) (Or.inl ⟨by rfl, ?_⟩) ?_ ?_
                    rotate_left
                    · intro w'
                      go_simp
                      with_reducible rfl
                    rotate_left
                    · simp only [Act.put, List.setIfInBounds_toArray, List.set_cons_zero, List.set_cons_succ, i64_w, i32_w]
                      rfl
                    refine take_ (i := 63) (N := some 66) (v := ?_) (a' := ?_) #[true, true, true, true, true, true, true, true, true, true, true, true, true, true, true, true, true, true, true, true, true, true, true, true, true, true, true, true, true, true, true, true, true, true, true, true, true, true, true, true, true, true, true, true, true, true, true, true, true, true, true, true, true, true, true, true, true, true, true, true, true, false, false, true, false, false, false, false, false] rfl rfl (take_ofW HT_.out HW_.out (by kernel_rfl)) (fun _ _ _ h => h) (Or.inl ⟨by rfl, ?_⟩) hHeld ?_ ?_
                    rotate_left
                    · rintro w' ⟨s0, s1, s2⟩
                      go_simp
                      with_reducible rfl
                    rotate_left
                    · simp only [Act.put, List.setIfInBounds_toArray, List.set_cons_zero, List.set_cons_succ, i64_w, i32_w]
                      rfl
                    refine one_ (i := 61) (N := some 64) #[true, true, true, true, true, true, true, true, true, true, true, true, true, true, true, true, true, true, true, true, true, true, true, true, true, true, true, true, true, true, true, true, true, true, true, true, true, true, true, true, true, true, true, true, true, true, true, true, true, true, true, true, true, true, true, true, true, true, true, true, true, true, false, true, false, false, false, false, false] rfl rfl (one_of HT_.out (by kernel_rfl)) (by decide) (fun K hK => ?_)
                    refine goes_ Tryd.func19 (by kernel_rfl) rfl #[.string (⟨#[49, 44, 98]⟩ : ByteArray)] (by rfl) rfl rfl (by (try simp only [List.map_toArray, List.map_cons, List.map_nil]); first | done | rfl | (simp only [List.length_drop, List.length_take]; rfl)) ?_
                    with_reducible refine (cardindexlaw08_text.calls (⟨#[49, 44, 98]⟩ : ByteArray) t256 t257 t258 _ A41.out).mono ?_
                    rintro e w101 ⟨rfl, hb⟩
                    refine ⟨_, rfl, ?_⟩
                    have n0_ := am (R_below (by (with_reducible repeat (first | apply R_alloc | apply R_drewN | apply R_drew)); exact HO174.out) hb)
                    have n1_ := am (R_below (by (with_reducible repeat (first | apply R_alloc | apply R_drewN | apply R_drew)); exact HO184.out) hb)
                    have n2_ := am (R_below (by (with_reducible repeat (first | apply R_alloc | apply R_drewN | apply R_drew)); exact HO202.out) hb)
                    have n3_ := am (R_below (by (with_reducible repeat (first | apply R_alloc | apply R_drewN | apply R_drew)); exact HO215.out) hb)
                    have n4_ := am (R_below (by (with_reducible repeat (first | apply R_alloc | apply R_drewN | apply R_drew)); exact HO228.out) hb)
                    have n5_ := am (R_below (by (with_reducible repeat (first | apply R_alloc | apply R_drewN | apply R_drew)); exact HO241.out) hb)
                    have n6_ := am (R_below (by (with_reducible repeat (first | apply R_alloc | apply R_drewN | apply R_drew)); exact HO254.out) hb)
                    have n7_ := am (blk_below (g := gb159) (o := .cells #[.int .u8 0, .int .i64 0, .string (⟨#[]⟩ : ByteArray)] 24 (0, 0)) (by (with_reducible repeat (first | refine blk_drewN ?_ _ | refine blk_drew ?_ | refine blk_alloc ?_ _)); exact BK159.out) hb)
                    have n8_ := am (below_step (by repeat (first | (with_reducible first | exact HB.out | apply below_alloc | apply pw_below_drewN | apply below_drew1 | refine below_set ?_ GE159.out) | exact HB.out)) hb)
                    clear HO174
                    clear HO184
                    clear HO202
                    clear HO215
                    clear HO228
                    clear HO241
                    clear HO254
                    clear BK159
                    clear HB
                    have HO174 := n0_
                    have HO184 := n1_
                    have HO202 := n2_
                    have HO215 := n3_
                    have HO228 := n4_
                    have HO241 := n5_
                    have HO254 := n6_
                    have BK159 := n7_
                    have HB := n8_
                    clear n0_ n1_ n2_ n3_ n4_ n5_ n6_ n7_ n8_
                    (try clear hb)
                    (try clear hb2)
                    (try clear hk)
                    (try clear hi)
                    refine hK.out _ _ ⟨(blk_cell BK159.out 0).trans rfl, (blk_cell BK159.out 1).trans rfl, (blk_cell BK159.out 2).trans rfl⟩ (fun hHeld => ?_)
                    clear hK K
                    refine norm_ (a' := ?_) ?_ ?_
                    rotate_left
                    · show Act.put _ (some 64) _ = _
                      simp only [Act.put, List.setIfInBounds_toArray, List.set_cons_zero, List.set_cons_succ, i64_w, i32_w]
                      rfl
                    refine one_ (i := 62) (N := some 65) #[true, true, true, true, true, true, true, true, true, true, true, true, true, true, true, true, true, true, true, true, true, true, true, true, true, true, true, true, true, true, true, true, true, true, true, true, true, true, true, true, true, true, true, true, true, true, true, true, true, true, true, true, true, true, true, true, true, true, true, true, true, true, true, true, false, false, false, false, false] rfl rfl (one_of HT_.out (by kernel_rfl)) (by decide) (fun K hK => ?_)
                    refine goes_ Tryd.func19 (by kernel_rfl) rfl #[.string (⟨#[98]⟩ : ByteArray)] (by rfl) rfl rfl (by (try simp only [List.map_toArray, List.map_cons, List.map_nil]); first | done | rfl | (simp only [List.length_drop, List.length_take]; rfl)) ?_
                    with_reducible refine (cardindexlaw08_text.calls (⟨#[98]⟩ : ByteArray) t259 t260 t261 _ A42.out).mono ?_
                    rintro e w102 ⟨rfl, hb⟩
                    refine ⟨_, rfl, ?_⟩
                    have n0_ := am (R_below (by (with_reducible repeat (first | apply R_alloc | apply R_drewN | apply R_drew)); exact HO174.out) hb)
                    have n1_ := am (R_below (by (with_reducible repeat (first | apply R_alloc | apply R_drewN | apply R_drew)); exact HO184.out) hb)
                    have n2_ := am (R_below (by (with_reducible repeat (first | apply R_alloc | apply R_drewN | apply R_drew)); exact HO202.out) hb)
                    have n3_ := am (R_below (by (with_reducible repeat (first | apply R_alloc | apply R_drewN | apply R_drew)); exact HO215.out) hb)
                    have n4_ := am (R_below (by (with_reducible repeat (first | apply R_alloc | apply R_drewN | apply R_drew)); exact HO228.out) hb)
                    have n5_ := am (R_below (by (with_reducible repeat (first | apply R_alloc | apply R_drewN | apply R_drew)); exact HO241.out) hb)
                    have n6_ := am (R_below (by (with_reducible repeat (first | apply R_alloc | apply R_drewN | apply R_drew)); exact HO254.out) hb)
                    have n7_ := am (blk_below (g := gb159) (o := .cells #[.int .u8 0, .int .i64 0, .string (⟨#[]⟩ : ByteArray)] 24 (0, 0)) (by (with_reducible repeat (first | refine blk_drewN ?_ _ | refine blk_drew ?_ | refine blk_alloc ?_ _)); exact BK159.out) hb)
                    have n8_ := am (below_step (by repeat (first | (with_reducible first | exact HB.out | apply below_alloc | apply pw_below_drewN | apply below_drew1 | refine below_set ?_ GE159.out) | exact HB.out)) hb)
                    clear HO174
                    clear HO184
                    clear HO202
                    clear HO215
                    clear HO228
                    clear HO241
                    clear HO254
                    clear BK159
                    clear HB
                    have HO174 := n0_
                    have HO184 := n1_
                    have HO202 := n2_
                    have HO215 := n3_
                    have HO228 := n4_
                    have HO241 := n5_
                    have HO254 := n6_
                    have BK159 := n7_
                    have HB := n8_
                    clear n0_ n1_ n2_ n3_ n4_ n5_ n6_ n7_ n8_
                    (try clear hb)
                    (try clear hb2)
                    (try clear hk)
                    (try clear hi)
                    refine hK.out _ _ ⟨(blk_cell BK159.out 0).trans rfl, (blk_cell BK159.out 1).trans rfl, (blk_cell BK159.out 2).trans rfl⟩ (fun hHeld => ?_)
                    clear hK K
                    refine norm_ (a' := ?_) ?_ ?_
                    rotate_left
                    · show Act.put _ (some 65) _ = _
                      simp only [Act.put, List.setIfInBounds_toArray, List.set_cons_zero, List.set_cons_succ, i64_w, i32_w]
                      rfl
                    refine one_ (i := 64) (N := some 67) #[true, true, true, true, true, true, true, true, true, true, true, true, true, true, true, true, true, true, true, true, true, true, true, true, true, true, true, true, true, true, true, true, true, true, true, true, true, true, true, true, true, true, true, true, true, true, true, true, true, true, true, true, true, true, true, true, true, true, true, true, true, true, true, true, true, false, false, false, false] rfl rfl (one_of HT_.out (by kernel_rfl)) (by decide) (fun K hK => ?_)
                    refine goes_ Tryd.func17 (by kernel_rfl) rfl #[.int .i64 1] (by rfl) rfl rfl (by (try simp only [List.map_toArray, List.map_cons, List.map_nil]); first | done | rfl | (simp only [List.length_drop, List.length_take]; rfl)) ?_
                    with_reducible refine (cardindexlaw08_num.calls 1 t262 t263 t264 _ A43.out).mono ?_
                    rintro e w103 ⟨rfl, hb⟩
                    refine ⟨_, rfl, ?_⟩
                    have n0_ := am (R_below (by (with_reducible repeat (first | apply R_alloc | apply R_drewN | apply R_drew)); exact HO174.out) hb)
                    have n1_ := am (R_below (by (with_reducible repeat (first | apply R_alloc | apply R_drewN | apply R_drew)); exact HO184.out) hb)
                    have n2_ := am (R_below (by (with_reducible repeat (first | apply R_alloc | apply R_drewN | apply R_drew)); exact HO202.out) hb)
                    have n3_ := am (R_below (by (with_reducible repeat (first | apply R_alloc | apply R_drewN | apply R_drew)); exact HO215.out) hb)
                    have n4_ := am (R_below (by (with_reducible repeat (first | apply R_alloc | apply R_drewN | apply R_drew)); exact HO228.out) hb)
                    have n5_ := am (R_below (by (with_reducible repeat (first | apply R_alloc | apply R_drewN | apply R_drew)); exact HO241.out) hb)
                    have n6_ := am (R_below (by (with_reducible repeat (first | apply R_alloc | apply R_drewN | apply R_drew)); exact HO254.out) hb)
                    have n7_ := am (blk_below (g := gb159) (o := .cells #[.int .u8 0, .int .i64 0, .string (⟨#[]⟩ : ByteArray)] 24 (0, 0)) (by (with_reducible repeat (first | refine blk_drewN ?_ _ | refine blk_drew ?_ | refine blk_alloc ?_ _)); exact BK159.out) hb)
                    have n8_ := am (below_step (by repeat (first | (with_reducible first | exact HB.out | apply below_alloc | apply pw_below_drewN | apply below_drew1 | refine below_set ?_ GE159.out) | exact HB.out)) hb)
                    clear HO174
                    clear HO184
                    clear HO202
                    clear HO215
                    clear HO228
                    clear HO241
                    clear HO254
                    clear BK159
                    clear HB
                    have HO174 := n0_
                    have HO184 := n1_
                    have HO202 := n2_
                    have HO215 := n3_
                    have HO228 := n4_
                    have HO241 := n5_
                    have HO254 := n6_
                    have BK159 := n7_
                    have HB := n8_
                    clear n0_ n1_ n2_ n3_ n4_ n5_ n6_ n7_ n8_
                    (try clear hb)
                    (try clear hb2)
                    (try clear hk)
                    (try clear hi)
                    refine hK.out _ _ ⟨(blk_cell BK159.out 0).trans rfl, (blk_cell BK159.out 1).trans rfl, (blk_cell BK159.out 2).trans rfl⟩ (fun hHeld => ?_)
                    clear hK K
                    refine norm_ (a' := ?_) ?_ ?_
                    rotate_left
                    · show Act.put _ (some 67) _ = _
                      simp only [Act.put, List.setIfInBounds_toArray, List.set_cons_zero, List.set_cons_succ, i64_w, i32_w]
                      rfl
                    refine one_ (i := 65) (N := some 68) #[true, true, true, true, true, true, true, true, true, true, true, true, true, true, true, true, true, true, true, true, true, true, true, true, true, true, true, true, true, true, true, true, true, true, true, true, true, true, true, true, true, true, true, true, true, true, true, true, true, true, true, true, true, true, true, true, true, true, true, true, true, true, true, true, true, true, false, false, false] rfl rfl (one_of HT_.out (by kernel_rfl)) (by decide) (fun K hK => ?_)
                    refine R_lit_step k24 _ 24 ?hg (N := 68) ?hd (xs := ([(⟨t259, t260, t261⟩ : S24), (⟨0, 0, (⟨#[]⟩ : ByteArray)⟩ : S24), (⟨t262, t263, t264⟩ : S24)] : List (S24))) (inner := [.int .u8 t259, .int .i64 t260, .string t261, .int .u8 0, .int .i64 0, .string (⟨#[]⟩ : ByteArray), .int .u8 t262, .int .i64 t263, .string t264]) (ok := fun _ => True) (okp := fun _ => True) ?hr ?hp (fun _ hk => hk) trivial (Below.refl _ _) (Nat.le_refl _) (by simp) ?_; (case hd => rfl); (case hg => rfl); (case hr => first | (go_simp; done) | (go_simp; rfl)); (case hp => exact (Reps.c3 (show Kd.M k24 _ _ _ (⟨t259, t260, t261⟩ : S24) [.int .u8 t259, .int .i64 t260, .string t261] from (k24_mkM _ _ _ (⟨t259, t260, t261⟩ : S24) )) (Reps.c3 (show Kd.M k24 _ _ _ (⟨0, 0, (⟨#[]⟩ : ByteArray)⟩ : S24) [.int .u8 0, .int .i64 0, .string (⟨#[]⟩ : ByteArray)] from (k24_mkM _ _ _ (⟨0, 0, (⟨#[]⟩ : ByteArray)⟩ : S24) )) (Reps.c3 (show Kd.M k24 _ _ _ (⟨t262, t263, t264⟩ : S24) [.int .u8 t262, .int .i64 t263, .string t264] from (k24_mkM _ _ _ (⟨t262, t263, t264⟩ : S24) )) (Reps.none _ _)))))
                    intro v266 w104 ho105 hb hg_ hnew_
                    clear hg_ hnew_
                    (first | rw [← Ny265.out] at ho105 | (simp only [Int.reduceToNat] at ho105; rw [← Ny265.out] at ho105))
                    have n0_ := am (R_elder' (by (with_reducible repeat (first | apply R_alloc | apply R_drewN | apply R_drew)); exact HO174.out) (R_base ho105) hb)
                    have n1_ := am (R_elder' (by (with_reducible repeat (first | apply R_alloc | apply R_drewN | apply R_drew)); exact HO184.out) (R_base ho105) hb)
                    have n2_ := am (R_elder' (by (with_reducible repeat (first | apply R_alloc | apply R_drewN | apply R_drew)); exact HO202.out) (R_base ho105) hb)
                    have n3_ := am (R_elder' (by (with_reducible repeat (first | apply R_alloc | apply R_drewN | apply R_drew)); exact HO215.out) (R_base ho105) hb)
                    have n4_ := am (R_elder' (by (with_reducible repeat (first | apply R_alloc | apply R_drewN | apply R_drew)); exact HO228.out) (R_base ho105) hb)
                    have n5_ := am (R_elder' (by (with_reducible repeat (first | apply R_alloc | apply R_drewN | apply R_drew)); exact HO241.out) (R_base ho105) hb)
                    have n6_ := am (R_elder' (by (with_reducible repeat (first | apply R_alloc | apply R_drewN | apply R_drew)); exact HO254.out) (R_base ho105) hb)
                    have n7_ := am (R_lower (R_newB (R_new' (R_new' (R_new' (R_new' (R_new' (R_new' (R_new' ho105 (R_lt (by (with_reducible repeat (first | apply R_alloc | apply R_drewN | apply R_drew)); exact HO174.out))) (R_lt (by (with_reducible repeat (first | apply R_alloc | apply R_drewN | apply R_drew)); exact HO184.out))) (R_lt (by (with_reducible repeat (first | apply R_alloc | apply R_drewN | apply R_drew)); exact HO202.out))) (R_lt (by (with_reducible repeat (first | apply R_alloc | apply R_drewN | apply R_drew)); exact HO215.out))) (R_lt (by (with_reducible repeat (first | apply R_alloc | apply R_drewN | apply R_drew)); exact HO228.out))) (R_lt (by (with_reducible repeat (first | apply R_alloc | apply R_drewN | apply R_drew)); exact HO241.out))) (R_lt (by (with_reducible repeat (first | apply R_alloc | apply R_drewN | apply R_drew)); exact HO254.out))) (g := gb159) (o := .cells #[.int .u8 0, .int .i64 0, .string (⟨#[]⟩ : ByteArray)] 24 (0, 0)) (by (with_reducible repeat (first | refine blk_drewN ?_ _ | refine blk_drew ?_ | refine blk_alloc ?_ _)); exact BK159.out)) (below_size (by repeat (first | (with_reducible first | exact HB.out | apply below_alloc | apply pw_below_drewN | apply below_drew1 | refine below_set ?_ GE159.out) | exact HB.out))))
                    have n8_ := am (blk_below (g := gb159) (o := .cells #[.int .u8 0, .int .i64 0, .string (⟨#[]⟩ : ByteArray)] 24 (0, 0)) (by (with_reducible repeat (first | refine blk_drewN ?_ _ | refine blk_drew ?_ | refine blk_alloc ?_ _)); exact BK159.out) hb)
                    have n9_ := am (below_step (by repeat (first | (with_reducible first | exact HB.out | apply below_alloc | apply pw_below_drewN | apply below_drew1 | refine below_set ?_ GE159.out) | exact HB.out)) hb)
                    clear HO174
                    clear HO184
                    clear HO202
                    clear HO215
                    clear HO228
                    clear HO241
                    clear HO254
                    clear BK159
                    clear HB
                    have HO174 := n0_
                    have HO184 := n1_
                    have HO202 := n2_
                    have HO215 := n3_
                    have HO228 := n4_
                    have HO241 := n5_
                    have HO254 := n6_
                    have HO267 := n7_
                    have BK159 := n8_
                    have HB := n9_
                    clear n0_ n1_ n2_ n3_ n4_ n5_ n6_ n7_ n8_ n9_
                    clear hb ho105
                    obtain ⟨Ao106, co106, eo106⟩ := R_slice HO267.out
                    (first | subst eo106 | (injection eo106 with f1_ f2_ f3_; have f4_ := f1_.symm; have f5_ := f3_.symm; clear f1_ f2_ f3_; subst f4_; subst f5_))
                    refine hK.out _ _ ⟨(blk_cell BK159.out 0).trans rfl, (blk_cell BK159.out 1).trans rfl, (blk_cell BK159.out 2).trans rfl⟩ (fun hHeld => ?_)
                    clear hK K
                    refine norm_ (a' := ?_) ?_ ?_
                    rotate_left
                    · show Act.put _ (some 68) _ = _
                      simp only [Act.put, List.setIfInBounds_toArray, List.set_cons_zero, List.set_cons_succ, i64_w, i32_w]
                      rfl
                    refine one_ (i := 66) (N := some 69) #[true, true, true, true, true, true, true, true, true, true, true, true, true, true, true, true, true, true, true, true, true, true, true, true, true, true, true, true, true, true, true, true, true, true, true, true, true, true, true, true, true, true, true, true, true, true, true, true, true, true, true, true, true, true, true, true, true, true, true, true, true, true, true, true, true, true, true, false, false] rfl rfl (one_of HT_.out (by kernel_rfl)) (by decide) (fun K hK => ?_)
                    refine goes_ Tryd.func21 (by kernel_rfl) rfl #[.agg #[.int .u8 t256, .int .i64 t257, .string t258], .string (⟨#[103, 114, 111, 117, 112, 95, 99, 111, 110, 99, 97, 116]⟩ : ByteArray), .bool false, .slice Ao106 y265.length co106] (by rfl) rfl rfl (by (try simp only [List.map_toArray, List.map_cons, List.map_nil]); first | done | rfl | (simp only [List.length_drop, List.length_take]; rfl)) ?_
                    with_reducible refine (cardindexlaw08_comes.calls t256 t257 t258 (⟨#[103, 114, 111, 117, 112, 95, 99, 111, 110, 99, 97, 116]⟩ : ByteArray) false _ _ y265 t268 _ ?side1 ?side2 ?side3 A44.out).mono ?_
                    (case side1 => repeat (first | exact (R_reads' HO267.out).2.2 | (with_reducible refine Kd.C_alloc ?_ _) | (with_reducible refine Kd.C_drewN ?_ _) | (with_reducible refine Kd.C_drew ?_)))
                    (case side2 => exact (R_reads' HO267.out).2.1)
                    (case side3 => exact Glob.below (by repeat (first | (with_reducible first | exact HB.out | apply below_alloc | apply pw_below_drewN | apply below_drew1 | refine below_set ?_ GE159.out) | exact HB.out)) HG.out)
                    rintro e w107 ⟨rfl, hb⟩
                    refine ⟨_, rfl, ?_⟩
                    have n0_ := am (R_below (by (with_reducible repeat (first | apply R_alloc | apply R_drewN | apply R_drew)); exact HO174.out) hb)
                    have n1_ := am (R_below (by (with_reducible repeat (first | apply R_alloc | apply R_drewN | apply R_drew)); exact HO184.out) hb)
                    have n2_ := am (R_below (by (with_reducible repeat (first | apply R_alloc | apply R_drewN | apply R_drew)); exact HO202.out) hb)
                    have n3_ := am (R_below (by (with_reducible repeat (first | apply R_alloc | apply R_drewN | apply R_drew)); exact HO215.out) hb)
                    have n4_ := am (R_below (by (with_reducible repeat (first | apply R_alloc | apply R_drewN | apply R_drew)); exact HO228.out) hb)
                    have n5_ := am (R_below (by (with_reducible repeat (first | apply R_alloc | apply R_drewN | apply R_drew)); exact HO241.out) hb)
                    have n6_ := am (R_below (by (with_reducible repeat (first | apply R_alloc | apply R_drewN | apply R_drew)); exact HO254.out) hb)
                    have n7_ := am (R_below (by (with_reducible repeat (first | apply R_alloc | apply R_drewN | apply R_drew)); exact HO267.out) hb)
                    have n8_ := am (blk_below (g := gb159) (o := .cells #[.int .u8 0, .int .i64 0, .string (⟨#[]⟩ : ByteArray)] 24 (0, 0)) (by (with_reducible repeat (first | refine blk_drewN ?_ _ | refine blk_drew ?_ | refine blk_alloc ?_ _)); exact BK159.out) hb)
                    have n9_ := am (below_step (by repeat (first | (with_reducible first | exact HB.out | apply below_alloc | apply pw_below_drewN | apply below_drew1 | refine below_set ?_ GE159.out) | exact HB.out)) hb)
                    clear HO174
                    clear HO184
                    clear HO202
                    clear HO215
                    clear HO228
                    clear HO241
                    clear HO254
                    clear HO267
                    clear BK159
                    clear HB
                    have HO174 := n0_
                    have HO184 := n1_
                    have HO202 := n2_
                    have HO215 := n3_
                    have HO228 := n4_
                    have HO241 := n5_
                    have HO254 := n6_
                    have HO267 := n7_
                    have BK159 := n8_
                    have HB := n9_
                    clear n0_ n1_ n2_ n3_ n4_ n5_ n6_ n7_ n8_ n9_
                    (try clear hb)
                    (try clear hb2)
                    (try clear hk)
                    (try clear hi)
                    refine hK.out _ _ ⟨(blk_cell BK159.out 0).trans rfl, (blk_cell BK159.out 1).trans rfl, (blk_cell BK159.out 2).trans rfl⟩ (fun hHeld => ?_)
                    clear hK K
                    refine norm_ (a' := ?_) ?_ ?_
                    rotate_left
                    · show Act.put _ (some 69) _ = _
                      simp only [Act.put, List.setIfInBounds_toArray, List.set_cons_zero, List.set_cons_succ, i64_w, i32_w]
                      rfl
                    refine pure_ (i := 67) (N := some 70) (v := ?_) (a' := ?_) #[true, true, true, true, true, true, true, true, true, true, true, true, true, true, true, true, true, true, true, true, true, true, true, true, true, true, true, true, true, true, true, true, true, true, true, true, true, true, true, true, true, true, true, true, true, true, true, true, true, true, true, true, true, true, true, true, true, true, true, true, true, true, true, true, true, true, true, true, false] rfl rfl (any_of HT_.out (by kernel_rfl)) (fun _ _ _ h => h) (Or.inl ⟨by rfl, ?_⟩) ?_ ?_
                    rotate_left
                    · intro w'
                      go_simp
                      with_reducible rfl
                    rotate_left
                    · simp only [Act.put, List.setIfInBounds_toArray, List.set_cons_zero, List.set_cons_succ, i64_w, i32_w]
                      rfl
                    refine pure_ (i := 68) (N := some 0) (v := ?_) (a' := ?_) #[true, true, true, true, true, true, true, true, true, true, true, true, true, true, true, true, true, true, true, true, true, true, true, true, true, true, true, true, true, true, true, true, true, true, true, true, true, true, true, true, true, true, true, true, true, true, true, true, true, true, true, true, true, true, true, true, true, true, true, true, true, true, true, true, true, true, true, true, true] rfl rfl (any_of HT_.out (by kernel_rfl)) (fun _ _ _ h => h) (Or.inl ⟨by rfl, ?_⟩) ?_ ?_
                    rotate_left
                    · intro w'
                      go_simp
                      with_reducible rfl
                    rotate_left
                    · simp only [Act.put, List.setIfInBounds_toArray, List.set_cons_zero, List.set_cons_succ, i64_w, i32_w]
                      rfl
                    refine done_ (done_of HT_.out (by kernel_rfl)) ?_
                    try go_wp2
                    go_ret
                    exact ⟨by first | rfl | (simp [errW_none, errW_some] <;> rfl) | (simp [*, errW_none, errW_some] <;> rfl), by repeat (first | (with_reducible first | exact HB.out | apply below_alloc | apply pw_below_drewN | apply below_drew1 | refine below_set ?_ GE159.out) | exact HB.out)⟩
                  · replace c40 := Bool.eq_false_iff.mpr c40
                    subst c40
                    have H1 : (some false) = some r := by rw [if_neg (show ¬ (false = true) by decide)] at H; exact H
                    clear H
                    have H := H1
                    clear H1
                    obtain rfl := Option.some.inj H
                    exact absurd HT.out (by simp)
                · replace c35 := Bool.eq_false_iff.mpr c35
                  subst c35
                  have H1 : (some false) = some r := by rw [if_neg (show ¬ (false = true) by decide)] at H; exact H
                  clear H
                  have H := H1
                  clear H1
                  obtain rfl := Option.some.inj H
                  exact absurd HT.out (by simp)
              · replace c30 := Bool.eq_false_iff.mpr c30
                subst c30
                have H1 : (some false) = some r := by rw [if_neg (show ¬ (false = true) by decide)] at H; exact H
                clear H
                have H := H1
                clear H1
                obtain rfl := Option.some.inj H
                exact absurd HT.out (by simp)
            · replace c25 := Bool.eq_false_iff.mpr c25
              subst c25
              have H1 : (some false) = some r := by rw [if_neg (show ¬ (false = true) by decide)] at H; exact H
              clear H
              have H := H1
              clear H1
              obtain rfl := Option.some.inj H
              exact absurd HT.out (by simp)
          · replace c20 := Bool.eq_false_iff.mpr c20
            subst c20
            have H1 : (some false) = some r := by rw [if_neg (show ¬ (false = true) by decide)] at H; exact H
            clear H
            have H := H1
            clear H1
            obtain rfl := Option.some.inj H
            exact absurd HT.out (by simp)
        · replace c15 := Bool.eq_false_iff.mpr c15
          subst c15
          have H1 : (some false) = some r := by rw [if_neg (show ¬ (false = true) by decide)] at H; exact H
          clear H
          have H := H1
          clear H1
          obtain rfl := Option.some.inj H
          exact absurd HT.out (by simp)
      · replace c12 := Bool.eq_false_iff.mpr c12
        subst c12
        have H1 : (some false) = some r := by rw [if_neg (show ¬ (false = true) by decide)] at H; exact H
        clear H
        have H := H1
        clear H1
        obtain rfl := Option.some.inj H
        exact absurd HT.out (by simp)
    · replace c10 := Bool.eq_false_iff.mpr c10
      subst c10
      have H1 : (some false) = some r := by rw [if_neg (show ¬ (false = true) by decide)] at H; exact H
      clear H
      have H := H1
      clear H1
      obtain rfl := Option.some.inj H
      exact absurd HT.out (by simp)
  · replace c6 := Bool.eq_false_iff.mpr c6
    subst c6
    have H1 : (some false) = some r := by rw [if_neg (show ¬ (false = true) by decide)] at H; exact H
    clear H
    have H := H1
    clear H1
    obtain rfl := Option.some.inj H
    exact absurd HT.out (by simp)

end Go.Proofs.YtjankdoaobklgaaDoor.Q
end
