import Derived.Test.YtjankdoaobklgaaDoorRows
import Derived.Test.YtjankdoaobklgaaDoorKN10
import Derived.Lib.LaidIn
import Derived.Lib.SmallJoins
import Derived.Lib.LaidU8
import Derived.Lib.LaidTab
import Derived.Deep.DeepHandedRow
import Derived.Deep.DeepWitnessRowRef
import Derived.WalkKit
import Derived.ProofKit
import Derived.OpenShut
import Derived.ShutString
import Derived.SizedLaws
section
namespace Go.Proofs.YtjankdoaobklgaaDoor.Q
open Go.ChangeShapes Go.WideShapes Go.ChangeAt Go.RowKit Go.Lib
open Go.ChangeMaps (open_string shut_string)

theorem own : ownKnob Tryd.prog.godebug = none := by kernel_rfl

/-- the listed variables, laid -/
def put (h : Array Obj) (g : Nat) (cs : Array Value) : Array Obj := h.modify g fun
  | .cells _ t frozen => .cells cs t frozen
  | o => o
def cellsOfD : DataW Unit → List Value
  | .lit (.int k n) => [.int k n]
  | .agg l => l.flatMap fun
    | .lit (.int k n) => [.int k n]
    | .agg l2 => l2.flatMap fun
      | .lit (.int k n) => [.int k n]
      | _ => []
    | _ => []
  | _ => []
noncomputable def laidWorld (os : Os) : World :=
  let w0 := World.holding Tryd.prog os ⟨#[], #[], []⟩
  let h1 := put w0.heap 4 (cellsOfD Rows.laid_math_bits_deBruijn32tab).toArray
  let h2 := put h1 5 (cellsOfD Rows.laid_math_bits_deBruijn64tab).toArray
  let h3 := put h2 1 (cellsOfD Rows.laid_internal_strconv_uint64pow10).toArray
  let h4 := put h3 3 (cellsOfD Rows.laid_unicode_utf8_acceptRanges).toArray
  let h5 := put h4 2 (cellsOfD Rows.laid_unicode_utf8_first).toArray
  { w0 with heap := h5 }
set_option maxRecDepth 100000 in
theorem laid_met (os : Os) (args : Array Value) : laidMet Tryd.prog Rows.aggNoneRow.laid ((laidWorld os).forCall (fun _ _ => 0) ⟨#[], args, []⟩).memory :=
  (LaidIn.of_run (l := Rows.aggNoneRow.laid) [4, 5, 1, 3, 2] 8 (by kernel_rfl) (by kernel_rfl) (by kernel_rfl) (by kernel_rfl)).met

abbrev spec : OpenSpec := OpenSpec.ofChange Rows.aggNoneSpec
abbrev arg0 : Array Value := #[.agg #[.int .u8 0, .int .i64 0, .string ⟨#[]⟩]]
set_option maxRecDepth 100000 in
theorem witness_row (os : Os) {H : Type} (enc : TypeId × Value → H) :
    spec.preRow enc Tryd.prog Tryd.f3 Rows.aggNoneRow.domain false Rows.aggNoneRow.laid ((laidWorld os).forCall (fun _ _ => 0) ⟨#[], arg0, []⟩).memory arg0 := by
  exact OpenSpec.preRow_of_B rfl 8 (by kernel_rfl) (by kernel_rfl) (laid_met os _)

theorem glob_of {W : World} (hL : laidMet Tryd.prog Rows.aggNoneRow.laid W) : Glob W := by
  obtain ⟨g, t, cs, fuel, p, hg, ht, hv, hd⟩ := Lib.laidMet.reads hL (n := "internal/strconv.uint64pow10") (d := Rows.laid_internal_strconv_uint64pow10) (.tail _ (.tail _ (.head _)))
  obtain rfl : t = 132 := by
    have h1 : (Tryd.prog).globalNamed "internal/strconv.uint64pow10" = some 1 := by kernel_rfl
    obtain rfl := Option.some.inj (h1.symm.trans hg)
    have h2 : ((Tryd.prog).globals[1]?).map (·.type) = some 132 := by kernel_rfl
    exact (Option.some.inj (h2.symm.trans ht)).symm
  unfold Glob Lib.TabIs
  rw [hv, ← Lib.cells_of_tab (zs := Lib.pow10Tab) (k := .u64) (n := 20) (e := 26) Tryd.underlying132 Tryd.underlying26 (by kernel_rfl) (by kernel_rfl) hd]

set_option maxRecDepth 100000 in
set_option maxHeartbeats 2000000 in
theorem lifted (os : Os) (started : os.Started) (H : Type) (enc : TypeId × Value → H) (F : Stop.Interp) :
    ReturnsInHanded {} Tryd.checked os 3 .any (spec.preRow enc Tryd.prog Tryd.f3 Rows.aggNoneRow.domain false Rows.aggNoneRow.laid) ((spec.at F).post enc Tryd.prog Tryd.f3 false true false false) := by
  refine returnsInHanded_of_row (C := Tryd.checked) (s := spec) own started (by kernel_rfl) Tryd.func3
    (witness_row_atRef (enc := enc) (C := Tryd.checked) false (laidWorld os) arg0 rfl (by kernel_rfl) (by kernel_rfl) (by kernel_rfl) (witness_row os enc)) ?_
  intro W base args ds gs before hval0 hW _ _ _ hL _ _
  have hval : ∀ (j : Nat) t v, Tryd.f3.params[j]? = some t → args[j]? = some v → Value.okWide Tryd.prog W .any base t v := hval0
  have hW' := hW
  obtain ⟨p, q, hA0, hV0, rfl, _, _⟩ := hW
  have hA : DataW.TrodAll enc Tryd.prog W 0 (fun _ => true) true Tryd.f3.params.toList args.toList ds p := hA0
  rw [Tryd.params3] at hA hval
  obtain ⟨v0, d0, rfl, rfl, h0⟩ := trodAll_one hA
  obtain ⟨rfl, rfl⟩ := trodVars_none hV0
  obtain ⟨c0, c1, c2, y0, y1, y2, n, rfl, hd, hp, t0, t1, t2⟩ := Joins.open_agg3 Tryd.underlying24 (by kernel_rfl) (by kernel_rfl) (hval 0 24 v0 rfl rfl) h0
  clear hA0 hV0 hval0
  obtain ⟨n0, e0, rfl, w0⟩ := DataW.trod_int Tryd.underlying22 t0
  obtain ⟨n1, e1, rfl, w1⟩ := DataW.trod_int Tryd.underlying2 t1
  obtain ⟨s2, e2, rfl, w2⟩ := DataW.trod_string Tryd.underlying9 t2
  obtain rfl := (List.cons.inj e0).1
  obtain rfl := (List.cons.inj e1).1
  obtain rfl := (List.cons.inj e2).1
  subst hd
  subst hp
  refine (agg_none ⟨n0, n1, s2⟩ W (glob_of hL)).mono ?_
  rintro e W' ⟨rfl, bel⟩
  have e1 : (spec.at F).fn H ([.agg [.lit (.int .u8 n0), .lit (.int .i64 n1), .lit (.string s2.data.toList)]] ++ []) = { results := [.lit (.bool true)], args := [.agg [.lit (.int .u8 n0), .lit (.int .i64 n1), .lit (.string s2.data.toList)]] } := rfl
  refine ⟨_, rfl, _, _, _, [], [], [], hW', ?_, ?_, ?_, bel.frame _, fun h => by cases h⟩
  · rw [e1]; exact trodAll_mk1 (shut_bool Tryd.underlying4 _)
  · rw [e1]
    exact trodAll_mk1 (Joins.shut_agg3 (P := Tryd.prog) (v0 := .int .u8 n0) (v1 := .int .i64 n1) (v2 := .string s2) (y0 := (.lit (.int .u8 n0), [])) (y1 := (.lit (.int .i64 n1), [])) (y2 := (.lit (.string s2.data.toList), [])) Tryd.underlying24 (by kernel_rfl) (by kernel_rfl) (shut_int Tryd.underlying22 w0) (shut_int Tryd.underlying2 w1) (shut_string Tryd.underlying9 w2))
  · rw [e1]; rfl

theorem row_holds : Rows.AggNoneSaid :=
  OpenClaim.holds_of_cond 3 Tryd.f3 rfl rfl rfl rfl rfl rfl rfl ⟨rfl, rfl, rfl, rfl, rfl⟩ rfl rfl rfl rfl rfl (by kernel_rfl) Tryd.func3 (by kernel_rfl)
    (of_decide_eq_true (by kernel_rfl)) (by unfold Func.isWrapper; rw [if_neg (of_decide_eq_false (by kernel_rfl))]; exact ⟨rfl, rfl⟩)
    (fun os started H enc _ F0 => by rw [OpenClaim.pre_eq_preRow]; exact lifted os started H enc F0)
end Go.Proofs.YtjankdoaobklgaaDoor.Q
end
