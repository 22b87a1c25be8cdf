import Derived.Test.YtjankdoaobklgaaDoorKN01
import Derived.Test.YtjankdoaobklgaaDoorKN03
import Derived.Test.YtjankdoaobklgaaDoorKN02
import Derived.Deep.RegionLaw
import Derived.Deep.Cut
import Derived.Laws.EntriesVeiled
import Derived.Deep.RegionHeld3
section
namespace Go.Proofs.YtjankdoaobklgaaDoor.Q
open Go.RowKit Go.Proofs.YtjankdoaobklgaaDoorW.PrintWords Go.Proofs.YtjankdoaobklgaaDoorW.PrintLast Go.Proofs.YtjankdoaobklgaaDoorW.PrintMore
attribute [local go_sem] max2_int min2_int max_two min_two max_three min_three max_four min_four   -- for this text's walks alone
set_option linter.unusedVariables false
set_option linter.unusedSimpArgs false

/-! ### value_Int: function 18 -/
mutual
def value_Int.j0 : Nat → ByteArray → Bool → Bool → Option (Int)
  | 0, _, _, _ => none
  | k + 1, x3, x4, x25 => if x25 = true then (if 1 ≤ (x3.size : Int) then (value_Int.j1 k (x3.extract 1 x3.size) x4) else (none)) else (value_Int.j1 k x3 x4)
def value_Int.j1 : Nat → ByteArray → Bool → Option (Int)
  | 0, _, _ => none
  | k + 1, x3, x4 => value_Int.l0 k x3 x4 0 0
def value_Int.j4 : Nat → Bool → Int → Option (Int)
  | 0, _, _ => none
  | k + 1, x4, x5 => if x4 = true then (some (wrap64 (-(wrap64 (x5))))) else (if x5 > 9223372036854775807 then (some 9223372036854775807) else (some (wrap64 (x5))))
def value_Int.l0 : Nat → ByteArray → Bool → Int → Int → Option (Int)
  | 0, _, _, _, _ => none
  | k + 1, x3, x4, x5, x6 => if x6 < (x3.size : Int) then (if 0 ≤ x6 then (if (bt x3 x6) ≥ 48 then (value_Int.j3 k x3 x4 x5 x6 (decide ((bt x3 x6) ≤ 57))) else (value_Int.j3 k x3 x4 x5 x6 false)) else (none)) else (value_Int.j3 k x3 x4 x5 x6 false)
def value_Int.j3 : Nat → ByteArray → Bool → Int → Int → Bool → Option (Int)
  | 0, _, _, _, _, _ => none
  | k + 1, x3, x4, x5, x6, x43 => if x43 = true then (if 0 ≤ x6 then (if x6 < (x3.size : Int) then (if x5 > ((9223372036854775808 - (((bt x3 x6) - 48) % 256)) / 10) then (value_Int.j4 k x4 9223372036854775808) else (value_Int.l0 k x3 x4 (IntKind.u64.wrap ((IntKind.u64.wrap (10 * x5)) + (((bt x3 x6) - 48) % 256))) (wrap64 (x6 + 1)))) else (none)) else (none)) else (value_Int.j4 k x4 x5)
end
def value_Int.f (k : Nat) (a0_0 : Int) (a0_1 : Int) (a0_2 : ByteArray) : Option (Int) := if a0_0 = 1 then (some a0_1) else (if a0_0 = 0 then (some 0) else ((strings_TrimLeft.f a0_2 (⟨#[9, 10, 11, 12, 13, 32]⟩ : ByteArray)).bind fun t328 => ((strings_HasPrefix.f t328 (⟨#[45]⟩ : ByteArray)).bind fun t329 => (if t329 = true then (value_Int.j0 k t328 t329 true) else ((strings_HasPrefix.f t328 (⟨#[43]⟩ : ByteArray)).bind fun t330 => (value_Int.j0 k t328 t329 t330))))))
theorem value_Int.mono_l : ∀ k, (∀ y0 y1 y2, LeO (value_Int.j0 k y0 y1 y2) (value_Int.j0 (k + 1) y0 y1 y2)) ∧ (∀ y0 y1, LeO (value_Int.j1 k y0 y1) (value_Int.j1 (k + 1) y0 y1)) ∧ (∀ y0 y1, LeO (value_Int.j4 k y0 y1) (value_Int.j4 (k + 1) y0 y1)) ∧ (∀ y0 y1 y2 y3, LeO (value_Int.l0 k y0 y1 y2 y3) (value_Int.l0 (k + 1) y0 y1 y2 y3)) ∧ (∀ y0 y1 y2 y3 y4, LeO (value_Int.j3 k y0 y1 y2 y3 y4) (value_Int.j3 (k + 1) y0 y1 y2 y3 y4))
  | 0 => ⟨fun _ _ _ r h => by simp [value_Int.j0] at h, fun _ _ r h => by simp [value_Int.j1] at h, fun _ _ r h => by simp [value_Int.j4] at h, fun _ _ _ _ r h => by simp [value_Int.l0] at h, fun _ _ _ _ _ r h => by simp [value_Int.j3] at h⟩
  | k + 1 => by
    obtain ⟨ih0, ih1, ih2, ih3, ih4⟩ := value_Int.mono_l k
    refine ⟨?_, ?_, ?_, ?_, ?_⟩
    · intro y0 y1 y2
      unfold value_Int.j0
      repeat' first
      | (with_reducible exact ih0 _ _ _)
      | (with_reducible exact ih1 _ _)
      | (with_reducible exact ih2 _ _)
      | (with_reducible exact ih3 _ _ _ _)
      | (with_reducible exact ih4 _ _ _ _ _)
      | (with_reducible exact LeO.refl _)
      | (with_reducible exact LeO.none _)
      | (with_reducible refine LeO.ite ?_ ?_)
      | (with_reducible refine LeO.bind ?_ (fun _ => ?_))
      | exact ih0 _ _ _
      | exact ih1 _ _
      | exact ih2 _ _
      | exact ih3 _ _ _ _
      | exact ih4 _ _ _ _ _
      | exact LeO.none _
      | refine LeO.ite ?_ ?_
      | refine LeO.bind ?_ (fun _ => ?_)
    · intro y0 y1
      unfold value_Int.j1
      repeat' first
      | (with_reducible exact ih0 _ _ _)
      | (with_reducible exact ih1 _ _)
      | (with_reducible exact ih2 _ _)
      | (with_reducible exact ih3 _ _ _ _)
      | (with_reducible exact ih4 _ _ _ _ _)
      | (with_reducible exact LeO.refl _)
      | (with_reducible exact LeO.none _)
      | (with_reducible refine LeO.ite ?_ ?_)
      | (with_reducible refine LeO.bind ?_ (fun _ => ?_))
      | exact ih0 _ _ _
      | exact ih1 _ _
      | exact ih2 _ _
      | exact ih3 _ _ _ _
      | exact ih4 _ _ _ _ _
      | exact LeO.none _
      | refine LeO.ite ?_ ?_
      | refine LeO.bind ?_ (fun _ => ?_)
    · intro y0 y1
      unfold value_Int.j4
      repeat' first
      | (with_reducible exact ih0 _ _ _)
      | (with_reducible exact ih1 _ _)
      | (with_reducible exact ih2 _ _)
      | (with_reducible exact ih3 _ _ _ _)
      | (with_reducible exact ih4 _ _ _ _ _)
      | (with_reducible exact LeO.refl _)
      | (with_reducible exact LeO.none _)
      | (with_reducible refine LeO.ite ?_ ?_)
      | (with_reducible refine LeO.bind ?_ (fun _ => ?_))
      | exact ih0 _ _ _
      | exact ih1 _ _
      | exact ih2 _ _
      | exact ih3 _ _ _ _
      | exact ih4 _ _ _ _ _
      | exact LeO.none _
      | refine LeO.ite ?_ ?_
      | refine LeO.bind ?_ (fun _ => ?_)
    · intro y0 y1 y2 y3
      unfold value_Int.l0
      repeat' first
      | (with_reducible exact ih0 _ _ _)
      | (with_reducible exact ih1 _ _)
      | (with_reducible exact ih2 _ _)
      | (with_reducible exact ih3 _ _ _ _)
      | (with_reducible exact ih4 _ _ _ _ _)
      | (with_reducible exact LeO.refl _)
      | (with_reducible exact LeO.none _)
      | (with_reducible refine LeO.ite ?_ ?_)
      | (with_reducible refine LeO.bind ?_ (fun _ => ?_))
      | exact ih0 _ _ _
      | exact ih1 _ _
      | exact ih2 _ _
      | exact ih3 _ _ _ _
      | exact ih4 _ _ _ _ _
      | exact LeO.none _
      | refine LeO.ite ?_ ?_
      | refine LeO.bind ?_ (fun _ => ?_)
    · intro y0 y1 y2 y3 y4
      unfold value_Int.j3
      repeat' first
      | (with_reducible exact ih0 _ _ _)
      | (with_reducible exact ih1 _ _)
      | (with_reducible exact ih2 _ _)
      | (with_reducible exact ih3 _ _ _ _)
      | (with_reducible exact ih4 _ _ _ _ _)
      | (with_reducible exact LeO.refl _)
      | (with_reducible exact LeO.none _)
      | (with_reducible refine LeO.ite ?_ ?_)
      | (with_reducible refine LeO.bind ?_ (fun _ => ?_))
      | exact ih0 _ _ _
      | exact ih1 _ _
      | exact ih2 _ _
      | exact ih3 _ _ _ _
      | exact ih4 _ _ _ _ _
      | exact LeO.none _
      | refine LeO.ite ?_ ?_
      | refine LeO.bind ?_ (fun _ => ?_)
theorem value_Int.mono : ∀ a0 a1 a2 k, LeO (value_Int.f k a0 a1 a2) (value_Int.f (k + 1) a0 a1 a2) := by
  intro a0 a1 a2 k
  obtain ⟨ih0, ih1, ih2, ih3, ih4⟩ := value_Int.mono_l k
  unfold value_Int.f
  repeat' first
      | (with_reducible exact ih0 _ _ _)
      | (with_reducible exact ih1 _ _)
      | (with_reducible exact ih2 _ _)
      | (with_reducible exact ih3 _ _ _ _)
      | (with_reducible exact ih4 _ _ _ _ _)
      | (with_reducible exact LeO.refl _)
      | (with_reducible exact LeO.none _)
      | (with_reducible refine LeO.ite ?_ ?_)
      | (with_reducible refine LeO.bind ?_ (fun _ => ?_))
      | exact ih0 _ _ _
      | exact ih1 _ _
      | exact ih2 _ _
      | exact ih3 _ _ _ _
      | exact ih4 _ _ _ _ _
      | exact LeO.none _
      | refine LeO.ite ?_ ?_
      | refine LeO.bind ?_ (fun _ => ?_)
set_option maxHeartbeats 8000000 in
set_option maxRecDepth 100000 in
theorem value_Int.calls (k : Nat) (a0_0 : Int) (a0_1 : Int) (a0_2 : ByteArray) (r : Int) (w : World) (h : value_Int.f k a0_0 a0_1 a0_2 = some r) :
    Calls Tryd.prog 18 #[.agg #[.int .u8 a0_0, .int .i64 a0_1, .string a0_2]] w fun e w' => e = .returned (.int .i64 r) ∧ Below w.heap.size w w' := by
  have hu24 := Tryd.underlying24
  have HB := Aside0.mk (Below.refl w.heap.size w)
  have H : (if a0_0 = 1 then (some a0_1) else (if a0_0 = 0 then (some 0) else ((strings_TrimLeft.f a0_2 (⟨#[9, 10, 11, 12, 13, 32]⟩ : ByteArray)).bind fun t328 => ((strings_HasPrefix.f t328 (⟨#[45]⟩ : ByteArray)).bind fun t329 => (if t329 = true then (value_Int.j0 k t328 t329 true) else ((strings_HasPrefix.f t328 (⟨#[43]⟩ : ByteArray)).bind fun t330 => (value_Int.j0 k t328 t329 t330))))))) = some r := h
  clear h
  by_cases c2 : a0_0 = 1
  · rw [if_pos c2] at H
    have c2b0 : (a0_0 == 1) = true := beq_iff_eq.mpr c2
    have c2b1 : (a0_0 != 1) = false := bne_eq_false_iff_eq.mpr c2
    clear c2
    obtain rfl := Option.some.inj H
    simp only [Option.some.injEq, Prod.mk.injEq] at H
    obtain ⟨rfl⟩ := H
    go_enter Tryd.func18, Tryd.ntmps18
    go_wp2_with (first | ((with_reducible refine gate_dst (N := 1) rfl ?_); refine box_event ?hg (N := 1) ?hd (cs := #[.int .u8 a0_0, .int .i64 a0_1, .string a0_2]) (t := 24) ?hr ?_; (case hd => rfl); (case hg => rfl); (case hr => first | (go_simp; done) | (go_simp; rfl)); intro gb327 hg w3 hbox hb; have n0_ := Aside0.mk (below_step (by repeat (first | (with_reducible first | exact HB.out | apply below_alloc | apply pw_below_drewN | apply below_drew1) | exact HB.out)) hb); have n1_ := Aside0.mk (hbox); have n2_ := Aside0.mk ((by rw [hg]; exact (below_size (by repeat (first | (with_reducible first | exact HB.out | apply below_alloc | apply pw_below_drewN | apply below_drew1) | exact HB.out))) : w.heap.size ≤ gb327)); have n3_ := Aside0.mk ((by rw [hg]; exact (below_size (by repeat (first | (with_reducible first | exact HB.out | apply below_alloc | apply pw_below_drewN | apply below_drew1) | exact HB.out))) : w.heap.size ≤ gb327)); clear HB; have HB := n0_; have BK327 := n1_; have GW327 := n2_; have GE327 := n3_; clear n0_ n1_ n2_ n3_; clear hb hbox hg; have hcz4_0 : w3.cell? ⟨gb327, 0, none⟩ = some (.int .u8 a0_0) := (blk_cell BK327.out 0).trans rfl; have hcz4_1 : w3.cell? ⟨gb327, 1, none⟩ = some (.int .i64 a0_1) := (blk_cell BK327.out 1).trans rfl; have hcz4_2 : w3.cell? ⟨gb327, 2, none⟩ = some (.string a0_2) := (blk_cell BK327.out 2).trans rfl; have hfz4_0 := blk_frozen BK327.out 0; have hfz4_1 := blk_frozen BK327.out 1; have hfz4_2 := blk_frozen BK327.out 2))
    go_ret
    exact ⟨by first | rfl | (simp [errW_none, errW_some] <;> rfl) | (simp [*, errW_none, errW_some] <;> rfl), by repeat (first | (with_reducible first | exact HB.out | apply below_alloc | apply pw_below_drewN | apply below_drew1 | refine below_set ?_ GE327.out) | exact HB.out)⟩
  · rw [if_neg c2] at H
    have c2b0 : (a0_0 == 1) = false := beq_eq_false_iff_ne.mpr c2
    have c2b1 : (a0_0 != 1) = true := bne_iff_ne.mpr c2
    by_cases c5 : a0_0 = 0
    · rw [if_pos c5] at H
      have c5b0 : (a0_0 == 0) = true := beq_iff_eq.mpr c5
      have c5b1 : (a0_0 != 0) = false := bne_eq_false_iff_eq.mpr c5
      clear c5
      obtain rfl := Option.some.inj H
      simp only [Option.some.injEq, Prod.mk.injEq] at H
      obtain ⟨rfl⟩ := H
      go_enter Tryd.func18, Tryd.ntmps18
      go_wp2_with (first | ((with_reducible refine gate_dst (N := 1) rfl ?_); refine box_event ?hg (N := 1) ?hd (cs := #[.int .u8 a0_0, .int .i64 a0_1, .string a0_2]) (t := 24) ?hr ?_; (case hd => rfl); (case hg => rfl); (case hr => first | (go_simp; done) | (go_simp; rfl)); intro gb327 hg w6 hbox hb; have n0_ := Aside0.mk (below_step (by repeat (first | (with_reducible first | exact HB.out | apply below_alloc | apply pw_below_drewN | apply below_drew1) | exact HB.out)) hb); have n1_ := Aside0.mk (hbox); have n2_ := Aside0.mk ((by rw [hg]; exact (below_size (by repeat (first | (with_reducible first | exact HB.out | apply below_alloc | apply pw_below_drewN | apply below_drew1) | exact HB.out))) : w.heap.size ≤ gb327)); have n3_ := Aside0.mk ((by rw [hg]; exact (below_size (by repeat (first | (with_reducible first | exact HB.out | apply below_alloc | apply pw_below_drewN | apply below_drew1) | exact HB.out))) : w.heap.size ≤ gb327)); clear HB; have HB := n0_; have BK327 := n1_; have GW327 := n2_; have GE327 := n3_; clear n0_ n1_ n2_ n3_; clear hb hbox hg; have hcz7_0 : w6.cell? ⟨gb327, 0, none⟩ = some (.int .u8 a0_0) := (blk_cell BK327.out 0).trans rfl; have hcz7_1 : w6.cell? ⟨gb327, 1, none⟩ = some (.int .i64 a0_1) := (blk_cell BK327.out 1).trans rfl; have hcz7_2 : w6.cell? ⟨gb327, 2, none⟩ = some (.string a0_2) := (blk_cell BK327.out 2).trans rfl; have hfz7_0 := blk_frozen BK327.out 0; have hfz7_1 := blk_frozen BK327.out 1; have hfz7_2 := blk_frozen BK327.out 2))
      go_ret
      exact ⟨by first | rfl | (simp [errW_none, errW_some] <;> rfl) | (simp [*, errW_none, errW_some] <;> rfl), by repeat (first | (with_reducible first | exact HB.out | apply below_alloc | apply pw_below_drewN | apply below_drew1 | refine below_set ?_ GE327.out) | exact HB.out)⟩
    · rw [if_neg c5] at H
      have c5b0 : (a0_0 == 0) = false := beq_eq_false_iff_ne.mpr c5
      have c5b1 : (a0_0 != 0) = true := bne_iff_ne.mpr c5
      replace H := Option.bind_eq_some_iff.mp H
      obtain ⟨t328, A80, H⟩ := H
      replace H : ((strings_HasPrefix.f t328 (⟨#[45]⟩ : ByteArray)).bind fun t329 => (if t329 = true then (value_Int.j0 k t328 t329 true) else ((strings_HasPrefix.f t328 (⟨#[43]⟩ : ByteArray)).bind fun t330 => (value_Int.j0 k t328 t329 t330)))) = some r := H
      have A8 := Aside0.mk A80
      clear A80
      replace H := Option.bind_eq_some_iff.mp H
      obtain ⟨t329, A90, H⟩ := H
      replace H : (if t329 = true then (value_Int.j0 k t328 t329 true) else ((strings_HasPrefix.f t328 (⟨#[43]⟩ : ByteArray)).bind fun t330 => (value_Int.j0 k t328 t329 t330))) = some r := H
      have A9 := Aside0.mk A90
      clear A90
      have HC10 := Aside0.mk H
      clear H
      go_enter Tryd.func18, Tryd.ntmps18
      go_upto_region 7 with (first | ((with_reducible refine gate_dst (N := 1) rfl ?_); refine box_event ?hg (N := 1) ?hd (cs := #[.int .u8 a0_0, .int .i64 a0_1, .string a0_2]) (t := 24) ?hr ?_; (case hd => rfl); (case hg => rfl); (case hr => first | (go_simp; done) | (go_simp; rfl)); intro gb327 hg w11 hbox hb; have n0_ := Aside0.mk (below_step (by repeat (first | (with_reducible first | exact HB.out | apply below_alloc | apply pw_below_drewN | apply below_drew1) | exact HB.out)) hb); have n1_ := Aside0.mk (hbox); have n2_ := Aside0.mk ((by rw [hg]; exact (below_size (by repeat (first | (with_reducible first | exact HB.out | apply below_alloc | apply pw_below_drewN | apply below_drew1) | exact HB.out))) : w.heap.size ≤ gb327)); have n3_ := Aside0.mk ((by rw [hg]; exact (below_size (by repeat (first | (with_reducible first | exact HB.out | apply below_alloc | apply pw_below_drewN | apply below_drew1) | exact HB.out))) : w.heap.size ≤ gb327)); clear HB; have HB := n0_; have BK327 := n1_; have GW327 := n2_; have GE327 := n3_; clear n0_ n1_ n2_ n3_; clear hb hbox hg; have hcz12_0 : w11.cell? ⟨gb327, 0, none⟩ = some (.int .u8 a0_0) := (blk_cell BK327.out 0).trans rfl; have hcz12_1 : w11.cell? ⟨gb327, 1, none⟩ = some (.int .i64 a0_1) := (blk_cell BK327.out 1).trans rfl; have hcz12_2 : w11.cell? ⟨gb327, 2, none⟩ = some (.string a0_2) := (blk_cell BK327.out 2).trans rfl; have hfz12_0 := blk_frozen BK327.out 0; have hfz12_1 := blk_frozen BK327.out 1; have hfz12_2 := blk_frozen BK327.out 2) | ((with_reducible refine gate_callee (f := 39) rfl ?_); refine goesL_ (some 18) rfl rfl Tryd.func39 (by kernel_rfl) rfl #[.string a0_2, .string (⟨#[9, 10, 11, 12, 13, 32]⟩ : ByteArray)] rfl (by (try simp only [List.map_toArray, List.map_cons, List.map_nil]); first | done | rfl | (simp only [List.length_drop, List.length_take]; rfl)) ?_; (with_reducible refine (strings_TrimLeft.calls a0_2 (⟨#[9, 10, 11, 12, 13, 32]⟩ : ByteArray) t328 _ A8.out).mono ?_); rintro e w13 ⟨rfl, hb⟩; refine ⟨_, rfl, ?_⟩; have n0_ := Aside0.mk (blk_below (g := gb327) (o := .cells #[.int .u8 a0_0, .int .i64 a0_1, .string a0_2] 24 (0, 0)) (by (with_reducible repeat (first | refine blk_drewN ?_ _ | refine blk_drew ?_ | refine blk_alloc ?_ _)); exact BK327.out) hb); have n1_ := Aside0.mk (below_step (by repeat (first | (with_reducible first | exact HB.out | apply below_alloc | apply pw_below_drewN | apply below_drew1 | refine below_set ?_ GE327.out) | exact HB.out)) hb); clear BK327; clear HB; have BK327 := n0_; have HB := n1_; clear n0_ n1_; (try clear hb); (try clear hb2); (try clear hk); (try clear hi)) | ((with_reducible refine gate_callee (f := 40) rfl ?_); refine goesL_ (some 20) rfl rfl Tryd.func40 (by kernel_rfl) rfl #[.string t328, .string (⟨#[45]⟩ : ByteArray)] rfl (by (try simp only [List.map_toArray, List.map_cons, List.map_nil]); first | done | rfl | (simp only [List.length_drop, List.length_take]; rfl)) ?_; (with_reducible refine (strings_HasPrefix.calls t328 (⟨#[45]⟩ : ByteArray) t329 _ A9.out).mono ?_); rintro e w' ⟨rfl, ⟨nd, rfl⟩⟩; refine ⟨_, rfl, ?_⟩))
      (try simp only [Act.put, List.setIfInBounds_toArray, List.set_cons_zero, List.set_cons_succ])
      go_cut [25] (fun v25 wc => ∃ (kq : Nat) (x25_9 : Bool), v25 = .bool x25_9 ∧ Aside0 (value_Int.j0 kq t328 t329 x25_9 = some r) ∧ Aside0 (kq ≤ k) ∧ Aside0 (wc.heap[gb327]? = some (.cells #[.int .u8 a0_0, .int .i64 a0_1, .string a0_2] 24 (0, 0))) ∧ Aside0 (Below w.heap.size w wc))
      case first =>
        have H := HC10.out
        clear HC10
        by_cases c14 : t329 = true
        · subst c14
          have H1 : (value_Int.j0 k t328 true true) = some r := by rw [if_pos rfl] at H; exact H
          clear H
          have H := H1
          clear H1
          have H' := Aside0.mk H
          clear H
          go_wp2
          go_meet
          case rel => exact ⟨_, (true), (by first | rfl | (simp; done) | (simp [*]; done)), H', ⟨by first | omega | exact Nat.le_refl _⟩, ⟨by (with_reducible repeat (first | refine blk_drewN ?_ _ | refine blk_drew ?_ | refine blk_alloc ?_ _)); exact BK327.out⟩, ⟨by repeat (first | (with_reducible first | exact HB.out | apply below_alloc | apply pw_below_drewN | apply below_drew1 | refine below_set ?_ GE327.out) | exact HB.out)⟩⟩
        · replace c14 := Bool.eq_false_iff.mpr c14
          subst c14
          have H1 : ((strings_HasPrefix.f t328 (⟨#[43]⟩ : ByteArray)).bind fun t330 => (value_Int.j0 k t328 false t330)) = some r := by rw [if_neg (show ¬ (false = true) by decide)] at H; exact H
          clear H
          have H := H1
          clear H1
          replace H := Option.bind_eq_some_iff.mp H
          obtain ⟨t330, A150, H⟩ := H
          replace H : (value_Int.j0 k t328 false t330) = some r := H
          have A15 := Aside0.mk A150
          clear A150
          have H' := Aside0.mk H
          clear H
          go_wp2_with (first | (go_at_call 40; (with_reducible refine (strings_HasPrefix.calls t328 (⟨#[43]⟩ : ByteArray) t330 _ A15.out).mono ?_); rintro e w' ⟨rfl, ⟨nd, rfl⟩⟩))
          go_meet
          case rel => exact ⟨_, (t330), (by first | rfl | (simp; done) | (simp [*]; done)), H', ⟨by first | omega | exact Nat.le_refl _⟩, ⟨by (with_reducible repeat (first | refine blk_drewN ?_ _ | refine blk_drew ?_ | refine blk_alloc ?_ _)); exact BK327.out⟩, ⟨by repeat (first | (with_reducible first | exact HB.out | apply below_alloc | apply pw_below_drewN | apply below_drew1 | refine below_set ?_ GE327.out) | exact HB.out)⟩⟩
      case rest =>
        clear HC10
        try clear c1
        try clear c2
        try clear c2b0
        try clear c2b1
        try clear p2
        try clear c3
        try clear c4
        try clear c5
        try clear c5b0
        try clear c5b1
        try clear c14
        try clear hcz12_0
        try clear hcz12_1
        try clear hcz12_2
        try clear hcz4_0
        try clear hcz4_1
        try clear hcz4_2
        try clear hcz7_0
        try clear hcz7_1
        try clear hcz7_2
        try clear hfz12_0
        try clear hfz12_1
        try clear hfz12_2
        try clear hfz4_0
        try clear hfz4_1
        try clear hfz4_2
        try clear hfz7_0
        try clear hfz7_1
        try clear hfz7_2
        obtain ⟨kq, x25_9, rfl, HA, HJ9, BK327, HB⟩ := hcut
        cases kq with
        | zero => exact absurd HA.out (by simp [value_Int.j0])
        | succ kj9 =>
          have H := HA.out
          clear HA
          simp only [value_Int.j0] at H
          have HC16 := Aside0.mk H
          clear H
          go_upto_if 25 with (fail)
          go_cut [3] (fun v3 wc => ∃ (kq : Nat) (x3_15 : ByteArray), v3 = .string x3_15 ∧ Aside0 (value_Int.j1 kq x3_15 t329 = some r) ∧ Aside0 (kq ≤ kj9) ∧ Aside0 (wc.heap[gb327]? = some (.cells #[.int .u8 a0_0, .int .i64 a0_1, .string a0_2] 24 (0, 0))) ∧ Aside0 (Below w.heap.size w wc))
          case first =>
            have H := HC16.out
            clear HC16
            by_cases c17 : x25_9 = true
            · subst c17
              have H1 : (if 1 ≤ (t328.size : Int) then (value_Int.j1 kj9 (t328.extract 1 t328.size) t329) else (none)) = some r := by rw [if_pos rfl] at H; exact H
              clear H
              have H := H1
              clear H1
              by_cases c18 : 1 ≤ (t328.size : Int)
              · rw [if_pos c18] at H
                have c18b0 := eq_true c18
                have c18b1 : decide (1 ≤ (t328.size : Int)) = true := decide_eq_true c18
                clear c18
                have H' := Aside0.mk H
                clear H
                go_wp2
                go_meet
                case rel => exact ⟨_, (t328.extract 1 t328.size), (by first | rfl | (simp; done) | (simp [*]; done)), H', ⟨by have := HJ9.out; first | omega | exact Nat.le_refl _⟩, ⟨by (with_reducible repeat (first | refine blk_drewN ?_ _ | refine blk_drew ?_ | refine blk_alloc ?_ _)); exact BK327.out⟩, ⟨by repeat (first | (with_reducible first | exact HB.out | apply below_alloc | apply pw_below_drewN | apply below_drew1 | refine below_set ?_ GE327.out) | exact HB.out)⟩⟩
              · rw [if_neg c18] at H
                exact absurd H (by simp)
            · replace c17 := Bool.eq_false_iff.mpr c17
              subst c17
              have H1 : (value_Int.j1 kj9 t328 t329) = some r := by rw [if_neg (show ¬ (false = true) by decide)] at H; exact H
              clear H
              have H := H1
              clear H1
              have H' := Aside0.mk H
              clear H
              go_wp2
              go_meet
              case rel => exact ⟨_, (t328), (by first | rfl | (simp; done) | (simp [*]; done)), H', ⟨by have := HJ9.out; first | omega | exact Nat.le_refl _⟩, ⟨by (with_reducible repeat (first | refine blk_drewN ?_ _ | refine blk_drew ?_ | refine blk_alloc ?_ _)); exact BK327.out⟩, ⟨by repeat (first | (with_reducible first | exact HB.out | apply below_alloc | apply pw_below_drewN | apply below_drew1 | refine below_set ?_ GE327.out) | exact HB.out)⟩⟩
          case rest =>
            clear HC16
            try clear c1
            try clear c2
            try clear c2b0
            try clear c2b1
            try clear p2
            try clear c3
            try clear c4
            try clear c5
            try clear c5b0
            try clear c5b1
            try clear c14
            try clear c17
            try clear c18
            try clear c18b0
            try clear c18b1
            try clear hcz12_0
            try clear hcz12_1
            try clear hcz12_2
            try clear hcz4_0
            try clear hcz4_1
            try clear hcz4_2
            try clear hcz7_0
            try clear hcz7_1
            try clear hcz7_2
            try clear hfz12_0
            try clear hfz12_1
            try clear hfz12_2
            try clear hfz4_0
            try clear hfz4_1
            try clear hfz4_2
            try clear hfz7_0
            try clear hfz7_1
            try clear hfz7_2
            try clear p2
            obtain ⟨kq, x3_15, rfl, HA, HJ15, BK327, HB⟩ := hcut
            cases kq with
            | zero => exact absurd HA.out (by simp [value_Int.j1])
            | succ kj15 =>
              have H := HA.out
              clear HA
              simp only [value_Int.j1] at H
              have HC19 := Aside0.mk H
              clear H
              go_upto_block 0 with (fail)
              go_cut [5] (fun v5 wc => ∃ (kq : Nat) (x5_18 : Int), v5 = .int .u64 x5_18 ∧ Aside0 (value_Int.j4 kq t329 x5_18 = some r) ∧ Aside0 (kq ≤ kj15) ∧ Aside0 (wc.heap[gb327]? = some (.cells #[.int .u8 a0_0, .int .i64 a0_1, .string a0_2] 24 (0, 0))) ∧ Aside0 (Below w.heap.size w wc))
              case first =>
                have H := HC19.out
                clear HC19
                have H' := Aside0.mk H
                clear H
                go_wp2
                go_loopg [5, 6] kj15 (fun kq v5 v6 w' => ∃ (x5_3 : Int) (x6_3 : Int), v5 = .int .u64 x5_3 ∧ v6 = .int .i64 x6_3 ∧ Aside0 (value_Int.l0 kq x3_15 t329 x5_3 x6_3 = some r) ∧ Aside0 (kq ≤ kj15) ∧ Aside0 (w'.heap[gb327]? = some (.cells #[.int .u8 a0_0, .int .i64 a0_1, .string a0_2] 24 (0, 0))) ∧ Aside0 (Below w.heap.size w w'))
                case atStart => exact ⟨(0), (0), (by first | rfl | (simp; done) | (simp [*]; done)), (by first | rfl | (simp; done) | (simp [*]; done)), H', ⟨Nat.le_refl _⟩, ⟨by (with_reducible repeat (first | refine blk_drewN ?_ _ | refine blk_drew ?_ | refine blk_alloc ?_ _)); exact BK327.out⟩, ⟨by repeat (first | (with_reducible first | exact HB.out | apply below_alloc | apply pw_below_drewN | apply below_drew1 | refine below_set ?_ GE327.out) | exact HB.out)⟩⟩
                case round =>
                  clear H'
                  try clear c1
                  try clear c2
                  try clear c2b0
                  try clear c2b1
                  try clear p2
                  try clear c3
                  try clear c4
                  try clear c5
                  try clear c5b0
                  try clear c5b1
                  try clear c14
                  try clear c17
                  try clear c18
                  try clear c18b0
                  try clear c18b1
                  try clear hcz12_0
                  try clear hcz12_1
                  try clear hcz12_2
                  try clear hcz4_0
                  try clear hcz4_1
                  try clear hcz4_2
                  try clear hcz7_0
                  try clear hcz7_1
                  try clear hcz7_2
                  try clear hfz12_0
                  try clear hfz12_1
                  try clear hfz12_2
                  try clear hfz4_0
                  try clear hfz4_1
                  try clear hfz4_2
                  try clear hfz7_0
                  try clear hfz7_1
                  try clear hfz7_2
                  try clear p2
                  obtain ⟨x5_3, x6_3, rfl, rfl, HA, HK3, BK327, HB⟩ := hrel
                  cases gk with
                  | zero => exact absurd HA.out (by simp [value_Int.l0])
                  | succ k3 =>
                    have H := HA.out
                    clear HA
                    simp only [value_Int.l0] at H
                    have HC20 := Aside0.mk H
                    clear H
                    go_upto_region 11 with (fail)
                    go_cut [43] (fun v43 wc => ∃ (kq : Nat) (x43_19 : Bool), v43 = .bool x43_19 ∧ Aside0 (value_Int.j3 kq x3_15 t329 x5_3 x6_3 x43_19 = some r) ∧ Aside0 (kq ≤ k3) ∧ Aside0 (wc.heap[gb327]? = some (.cells #[.int .u8 a0_0, .int .i64 a0_1, .string a0_2] 24 (0, 0))) ∧ Aside0 (Below w.heap.size w wc))
                    case first =>
                      have H := HC20.out
                      clear HC20
                      by_cases c21 : x6_3 < (x3_15.size : Int)
                      · rw [if_pos c21] at H
                        have c21b0 : decide (x6_3 < (x3_15.size : Int)) = true := decide_eq_true c21
                        clear c21
                        (first | rw [c21b0] | (simp only [i64_w, i32_w]; rw [c21b0]) | skip)
                        by_cases c22 : 0 ≤ x6_3
                        · rw [if_pos c22] at H
                          have c22b0 : decide (0 ≤ x6_3) = true := decide_eq_true c22
                          clear c22
                          by_cases c24 : (bt x3_15 x6_3) ≥ 48
                          · rw [if_pos c24] at H
                            have c24b0 : decide (48 ≤ (bt x3_15 x6_3)) = true := decide_eq_true c24
                            clear c24
                            have H' := Aside0.mk H
                            clear H
                            have p23 : 0 ≤ (x6_3 : Int) := of_decide_eq_true (by first | (with_reducible assumption) | assumption)
                            have q23 : x6_3 < (x3_15.size : Int) := of_decide_eq_true (by first | (with_reducible assumption) | assumption)
                            have hx23 := bt_at x3_15 x6_3
                            replace p23 := eq_true p23
                            replace q23 := eq_true q23
                            have p25 : 0 ≤ (x6_3 : Int) := of_decide_eq_true (by first | (with_reducible assumption) | assumption)
                            have q25 : x6_3 < (x3_15.size : Int) := of_decide_eq_true (by first | (with_reducible assumption) | assumption)
                            have hx25 := bt_at x3_15 x6_3
                            replace p25 := eq_true p25
                            replace q25 := eq_true q25
                            go_wp2
                            go_meet
                            case rel => exact ⟨_, (decide ((bt x3_15 x6_3) ≤ 57)), (by first | rfl | (simp; done) | (simp [*]; done)), H', ⟨by have := HJ9.out; have := HJ15.out; have := HK3.out; first | omega | exact Nat.le_refl _⟩, ⟨by (with_reducible repeat (first | refine blk_drewN ?_ _ | refine blk_drew ?_ | refine blk_alloc ?_ _)); exact BK327.out⟩, ⟨by repeat (first | (with_reducible first | exact HB.out | apply below_alloc | apply pw_below_drewN | apply below_drew1 | refine below_set ?_ GE327.out) | exact HB.out)⟩⟩
                          · rw [if_neg c24] at H
                            have c24b0 : decide (48 ≤ (bt x3_15 x6_3)) = false := decide_eq_false c24
                            clear c24
                            have H' := Aside0.mk H
                            clear H
                            have p23 : 0 ≤ (x6_3 : Int) := of_decide_eq_true (by first | (with_reducible assumption) | assumption)
                            have q23 : x6_3 < (x3_15.size : Int) := of_decide_eq_true (by first | (with_reducible assumption) | assumption)
                            have hx23 := bt_at x3_15 x6_3
                            replace p23 := eq_true p23
                            replace q23 := eq_true q23
                            go_wp2
                            go_meet
                            case rel => exact ⟨_, (false), (by first | rfl | (simp; done) | (simp [*]; done)), H', ⟨by have := HJ9.out; have := HJ15.out; have := HK3.out; first | omega | exact Nat.le_refl _⟩, ⟨by (with_reducible repeat (first | refine blk_drewN ?_ _ | refine blk_drew ?_ | refine blk_alloc ?_ _)); exact BK327.out⟩, ⟨by repeat (first | (with_reducible first | exact HB.out | apply below_alloc | apply pw_below_drewN | apply below_drew1 | refine below_set ?_ GE327.out) | exact HB.out)⟩⟩
                        · rw [if_neg c22] at H
                          exact absurd H (by simp)
                      · rw [if_neg c21] at H
                        have c21b0 : decide (x6_3 < (x3_15.size : Int)) = false := decide_eq_false c21
                        clear c21
                        (first | rw [c21b0] | (simp only [i64_w, i32_w]; rw [c21b0]) | skip)
                        have H' := Aside0.mk H
                        clear H
                        go_wp2
                        go_meet
                        case rel => exact ⟨_, (false), (by first | rfl | (simp; done) | (simp [*]; done)), H', ⟨by have := HJ9.out; have := HJ15.out; have := HK3.out; first | omega | exact Nat.le_refl _⟩, ⟨by (with_reducible repeat (first | refine blk_drewN ?_ _ | refine blk_drew ?_ | refine blk_alloc ?_ _)); exact BK327.out⟩, ⟨by repeat (first | (with_reducible first | exact HB.out | apply below_alloc | apply pw_below_drewN | apply below_drew1 | refine below_set ?_ GE327.out) | exact HB.out)⟩⟩
                    case rest =>
                      clear HC20
                      try clear c1
                      try clear c2
                      try clear c2b0
                      try clear c2b1
                      try clear p2
                      try clear q2
                      try clear hx2
                      try clear c3
                      try clear c4
                      try clear c5
                      try clear c5b0
                      try clear c5b1
                      try clear c14
                      try clear c17
                      try clear c18
                      try clear c18b0
                      try clear c18b1
                      try clear c21
                      try clear c21b0
                      try clear c22
                      try clear c22b0
                      try clear p23
                      try clear q23
                      try clear hx23
                      try clear c24
                      try clear c24b0
                      try clear p25
                      try clear q25
                      try clear hx25
                      try clear hcz12_0
                      try clear hcz12_1
                      try clear hcz12_2
                      try clear hcz4_0
                      try clear hcz4_1
                      try clear hcz4_2
                      try clear hcz7_0
                      try clear hcz7_1
                      try clear hcz7_2
                      try clear hfz12_0
                      try clear hfz12_1
                      try clear hfz12_2
                      try clear hfz4_0
                      try clear hfz4_1
                      try clear hfz4_2
                      try clear hfz7_0
                      try clear hfz7_1
                      try clear hfz7_2
                      try clear p2
                      try clear p23
                      try clear p25
                      try clear q23
                      try clear q25
                      obtain ⟨kq, x43_19, rfl, HA, HJ19, BK327, HB⟩ := hcut
                      cases kq with
                      | zero => exact absurd HA.out (by simp [value_Int.j3])
                      | succ kj19 =>
                        have H := HA.out
                        clear HA
                        simp only [value_Int.j3] at H
                        by_cases c26 : x43_19 = true
                        · subst c26
                          have H1 : (if 0 ≤ x6_3 then (if x6_3 < (x3_15.size : Int) then (if x5_3 > ((9223372036854775808 - (((bt x3_15 x6_3) - 48) % 256)) / 10) then (value_Int.j4 kj19 t329 9223372036854775808) else (value_Int.l0 kj19 x3_15 t329 (IntKind.u64.wrap ((IntKind.u64.wrap (10 * x5_3)) + (((bt x3_15 x6_3) - 48) % 256))) (wrap64 (x6_3 + 1)))) else (none)) else (none)) = some r := by rw [if_pos rfl] at H; exact H
                          clear H
                          have H := H1
                          clear H1
                          by_cases c27 : 0 ≤ x6_3
                          · rw [if_pos c27] at H
                            have c27b0 : decide (0 ≤ x6_3) = true := decide_eq_true c27
                            clear c27
                            by_cases c28 : x6_3 < (x3_15.size : Int)
                            · rw [if_pos c28] at H
                              have c28b0 : decide (x6_3 < (x3_15.size : Int)) = true := decide_eq_true c28
                              clear c28
                              by_cases c30 : x5_3 > ((9223372036854775808 - (((bt x3_15 x6_3) - 48) % 256)) / 10)
                              · rw [if_pos c30] at H
                                have c30b0 : decide (((9223372036854775808 - (((bt x3_15 x6_3) - 48) % 256)) / 10) < x5_3) = true := decide_eq_true c30
                                clear c30
                                have H' := Aside0.mk H
                                clear H
                                have p29 : 0 ≤ (x6_3 : Int) := of_decide_eq_true (by first | (with_reducible assumption) | assumption)
                                have q29 : x6_3 < (x3_15.size : Int) := of_decide_eq_true (by first | (with_reducible assumption) | assumption)
                                have hx29 := bt_at x3_15 x6_3
                                replace p29 := eq_true p29
                                replace q29 := eq_true q29
                                go_wp2
                                go_meet
                                case rel => exact ⟨_, (9223372036854775808), (by first | rfl | (simp; done) | (simp [*]; done)), H', ⟨by have := HJ9.out; have := HJ15.out; have := HK3.out; have := HJ19.out; first | omega | exact Nat.le_refl _⟩, ⟨by (with_reducible repeat (first | refine blk_drewN ?_ _ | refine blk_drew ?_ | refine blk_alloc ?_ _)); exact BK327.out⟩, ⟨by repeat (first | (with_reducible first | exact HB.out | apply below_alloc | apply pw_below_drewN | apply below_drew1 | refine below_set ?_ GE327.out) | exact HB.out)⟩⟩
                              · rw [if_neg c30] at H
                                have c30b0 : decide (((9223372036854775808 - (((bt x3_15 x6_3) - 48) % 256)) / 10) < x5_3) = false := decide_eq_false c30
                                clear c30
                                have H' := Aside0.mk H
                                clear H
                                have p29 : 0 ≤ (x6_3 : Int) := of_decide_eq_true (by first | (with_reducible assumption) | assumption)
                                have q29 : x6_3 < (x3_15.size : Int) := of_decide_eq_true (by first | (with_reducible assumption) | assumption)
                                have hx29 := bt_at x3_15 x6_3
                                replace p29 := eq_true p29
                                replace q29 := eq_true q29
                                go_wp2
                                go_roundg kj19
                                case measure => have := HJ9.out; have := HJ15.out; have := HK3.out; have := HJ19.out; omega
                                case rel => exact ⟨(IntKind.u64.wrap ((IntKind.u64.wrap (10 * x5_3)) + (((bt x3_15 x6_3) - 48) % 256))), (wrap64 (x6_3 + 1)), (by first | rfl | (simp; done) | (simp [*]; done)), (by first | rfl | (simp; done) | (simp [*]; done)), H', ⟨by have := HJ9.out; have := HJ15.out; have := HK3.out; have := HJ19.out; omega⟩, ⟨by (with_reducible repeat (first | refine blk_drewN ?_ _ | refine blk_drew ?_ | refine blk_alloc ?_ _)); exact BK327.out⟩, ⟨by repeat (first | (with_reducible first | exact HB.out | apply below_alloc | apply pw_below_drewN | apply below_drew1 | refine below_set ?_ GE327.out) | exact HB.out)⟩⟩
                            · rw [if_neg c28] at H
                              exact absurd H (by simp)
                          · rw [if_neg c27] at H
                            exact absurd H (by simp)
                        · replace c26 := Bool.eq_false_iff.mpr c26
                          subst c26
                          have H1 : (value_Int.j4 kj19 t329 x5_3) = some r := by rw [if_neg (show ¬ (false = true) by decide)] at H; exact H
                          clear H
                          have H := H1
                          clear H1
                          have H' := Aside0.mk H
                          clear H
                          go_wp2
                          go_meet
                          case rel => exact ⟨_, (x5_3), (by first | rfl | (simp; done) | (simp [*]; done)), H', ⟨by have := HJ9.out; have := HJ15.out; have := HK3.out; have := HJ19.out; first | omega | exact Nat.le_refl _⟩, ⟨by (with_reducible repeat (first | refine blk_drewN ?_ _ | refine blk_drew ?_ | refine blk_alloc ?_ _)); exact BK327.out⟩, ⟨by repeat (first | (with_reducible first | exact HB.out | apply below_alloc | apply pw_below_drewN | apply below_drew1 | refine below_set ?_ GE327.out) | exact HB.out)⟩⟩
              case rest =>
                clear HC19
                try clear c1
                try clear c2
                try clear c2b0
                try clear c2b1
                try clear p2
                try clear q2
                try clear hx2
                try clear c3
                try clear c4
                try clear c5
                try clear c5b0
                try clear c5b1
                try clear p6
                try clear c14
                try clear c17
                try clear c18
                try clear c18b0
                try clear c18b1
                try clear c21
                try clear c21b0
                try clear c22
                try clear c22b0
                try clear p23
                try clear q23
                try clear hx23
                try clear c24
                try clear c24b0
                try clear p25
                try clear q25
                try clear hx25
                try clear c26
                try clear c27
                try clear c27b0
                try clear c28
                try clear c28b0
                try clear p29
                try clear q29
                try clear hx29
                try clear c30
                try clear c30b0
                try clear hcz12_0
                try clear hcz12_1
                try clear hcz12_2
                try clear hcz4_0
                try clear hcz4_1
                try clear hcz4_2
                try clear hcz7_0
                try clear hcz7_1
                try clear hcz7_2
                try clear hfz12_0
                try clear hfz12_1
                try clear hfz12_2
                try clear hfz4_0
                try clear hfz4_1
                try clear hfz4_2
                try clear hfz7_0
                try clear hfz7_1
                try clear hfz7_2
                try clear p2
                try clear p23
                try clear p25
                try clear p29
                try clear q2
                try clear q23
                try clear q25
                try clear q29
                obtain ⟨kq, x5_18, rfl, HA, HJ18, BK327, HB⟩ := hcut
                cases kq with
                | zero => exact absurd HA.out (by simp [value_Int.j4])
                | succ kj18 =>
                  have H := HA.out
                  clear HA
                  simp only [value_Int.j4] at H
                  by_cases c31 : t329 = true
                  · subst c31
                    have H1 : (some (wrap64 (-(wrap64 (x5_18))))) = some r := by rw [if_pos rfl] at H; exact H
                    clear H
                    have H := H1
                    clear H1
                    obtain rfl := Option.some.inj H
                    simp only [Option.some.injEq, Prod.mk.injEq] at H
                    obtain ⟨rfl⟩ := H
                    go_wp2
                    go_ret
                    exact ⟨by first | rfl | (simp [errW_none, errW_some] <;> rfl) | (simp [*, errW_none, errW_some] <;> rfl), by repeat (first | (with_reducible first | exact HB.out | apply below_alloc | apply pw_below_drewN | apply below_drew1 | refine below_set ?_ GE327.out) | exact HB.out)⟩
                  · replace c31 := Bool.eq_false_iff.mpr c31
                    subst c31
                    have H1 : (if x5_18 > 9223372036854775807 then (some 9223372036854775807) else (some (wrap64 (x5_18)))) = some r := by rw [if_neg (show ¬ (false = true) by decide)] at H; exact H
                    clear H
                    have H := H1
                    clear H1
                    by_cases c32 : x5_18 > 9223372036854775807
                    · rw [if_pos c32] at H
                      have c32b0 : decide (9223372036854775807 < x5_18) = true := decide_eq_true c32
                      clear c32
                      obtain rfl := Option.some.inj H
                      simp only [Option.some.injEq, Prod.mk.injEq] at H
                      obtain ⟨rfl⟩ := H
                      go_wp2
                      go_ret
                      exact ⟨by first | rfl | (simp [errW_none, errW_some] <;> rfl) | (simp [*, errW_none, errW_some] <;> rfl), by repeat (first | (with_reducible first | exact HB.out | apply below_alloc | apply pw_below_drewN | apply below_drew1 | refine below_set ?_ GE327.out) | exact HB.out)⟩
                    · rw [if_neg c32] at H
                      have c32b0 : decide (9223372036854775807 < x5_18) = false := decide_eq_false c32
                      clear c32
                      obtain rfl := Option.some.inj H
                      simp only [Option.some.injEq, Prod.mk.injEq] at H
                      obtain ⟨rfl⟩ := H
                      go_wp2
                      go_ret
                      exact ⟨by first | rfl | (simp [errW_none, errW_some] <;> rfl) | (simp [*, errW_none, errW_some] <;> rfl), by repeat (first | (with_reducible first | exact HB.out | apply below_alloc | apply pw_below_drewN | apply below_drew1 | refine below_set ?_ GE327.out) | exact HB.out)⟩

end Go.Proofs.YtjankdoaobklgaaDoor.Q
end
section
namespace Go.Proofs.YtjankdoaobklgaaDoor.Q
open Go.RowKit Go.Proofs.YtjankdoaobklgaaDoorW.PrintWords Go.Proofs.YtjankdoaobklgaaDoorW.PrintLast Go.Proofs.YtjankdoaobklgaaDoorW.PrintMore
attribute [local go_sem] max2_int min2_int max_two min_two max_three min_three max_four min_four   -- for this text's walks alone
set_option linter.unusedVariables false
set_option linter.unusedSimpArgs false

/-! ### cmp_isNaN_cardindex_api_Kind: function 72 -/
def cmp_isNaN_cardindex_api_Kind.f (a0 : Int) : Option (Bool) := some (a0 != a0)
set_option maxHeartbeats 8000000 in
set_option maxRecDepth 100000 in
theorem cmp_isNaN_cardindex_api_Kind.calls (a0 : Int) (r : Bool) (w : World) (h : cmp_isNaN_cardindex_api_Kind.f a0 = some r) :
    Calls Tryd.prog 72 #[.int .u8 a0] w fun e w' => e = .returned (.bool r) ∧ Drawn0 w w' := by
  have H : (some (a0 != a0)) = some r := h
  clear h
  obtain rfl := Option.some.inj H
  simp only [Option.some.injEq, Prod.mk.injEq] at H
  obtain ⟨rfl⟩ := H
  go_enter Tryd.func72, Tryd.ntmps72
  go_wp2
  go_ret
  exact ⟨by first | rfl | (simp; done) | (simp [*]; done), by repeat (first | exact Drawn0.refl _ | apply Drawn0.step)⟩

end Go.Proofs.YtjankdoaobklgaaDoor.Q
end
section
namespace Go.Proofs.YtjankdoaobklgaaDoor.Q
open Go.RowKit Go.Proofs.YtjankdoaobklgaaDoorW.PrintWords Go.Proofs.YtjankdoaobklgaaDoorW.PrintLast Go.Proofs.YtjankdoaobklgaaDoorW.PrintMore
attribute [local go_sem] max2_int min2_int max_two min_two max_three min_three max_four min_four   -- for this text's walks alone
set_option linter.unusedVariables false
set_option linter.unusedSimpArgs false

/-! ### cmp_Compare_cardindex_api_Kind: function 52 -/
def cmp_Compare_cardindex_api_Kind.f (a0 : Int) (a1 : Int) : Option (Int) := (cmp_isNaN_cardindex_api_Kind.f a0).bind fun t132 => ((cmp_isNaN_cardindex_api_Kind.f a1).bind fun t133 => (if t132 = true then (if t133 = true then (some 0) else (some (-1))) else (if t133 = true then (some 1) else (if a0 < a1 then (some (-1)) else (if a0 > a1 then (some 1) else (some 0))))))
set_option maxHeartbeats 8000000 in
set_option maxRecDepth 100000 in
theorem cmp_Compare_cardindex_api_Kind.calls (a0 : Int) (a1 : Int) (r : Int) (w : World) (h : cmp_Compare_cardindex_api_Kind.f a0 a1 = some r) :
    Calls Tryd.prog 52 #[.int .u8 a0, .int .u8 a1] w fun e w' => e = .returned (.int .i64 r) ∧ Drawn0 w w' := by
  have H : ((cmp_isNaN_cardindex_api_Kind.f a0).bind fun t132 => ((cmp_isNaN_cardindex_api_Kind.f a1).bind fun t133 => (if t132 = true then (if t133 = true then (some 0) else (some (-1))) else (if t133 = true then (some 1) else (if a0 < a1 then (some (-1)) else (if a0 > a1 then (some 1) else (some 0))))))) = some r := h
  clear h
  replace H := Option.bind_eq_some_iff.mp H
  obtain ⟨t132, A30, H⟩ := H
  replace H : ((cmp_isNaN_cardindex_api_Kind.f a1).bind fun t133 => (if t132 = true then (if t133 = true then (some 0) else (some (-1))) else (if t133 = true then (some 1) else (if a0 < a1 then (some (-1)) else (if a0 > a1 then (some 1) else (some 0)))))) = some r := H
  have A3 := Aside0.mk A30
  clear A30
  replace H := Option.bind_eq_some_iff.mp H
  obtain ⟨t133, A40, H⟩ := H
  replace H : (if t132 = true then (if t133 = true then (some 0) else (some (-1))) else (if t133 = true then (some 1) else (if a0 < a1 then (some (-1)) else (if a0 > a1 then (some 1) else (some 0))))) = some r := H
  have A4 := Aside0.mk A40
  clear A40
  by_cases c5 : t132 = true
  · subst c5
    have H1 : (if t133 = true then (some 0) else (some (-1))) = some r := by rw [if_pos rfl] at H; exact H
    clear H
    have H := H1
    clear H1
    by_cases c6 : t133 = true
    · subst c6
      have H1 : (some 0) = some r := by rw [if_pos rfl] at H; exact H
      clear H
      have H := H1
      clear H1
      obtain rfl := Option.some.inj H
      simp only [Option.some.injEq, Prod.mk.injEq] at H
      obtain ⟨rfl⟩ := H
      go_enter Tryd.func52, Tryd.ntmps52
      go_wp2_with (first | ((with_reducible refine gate_callee (f := 72) rfl ?_); refine goesL_ (some 8) rfl rfl Tryd.func72 (by kernel_rfl) rfl #[.int .u8 a0] rfl (by (try simp only [List.map_toArray, List.map_cons, List.map_nil]); first | done | rfl | (simp only [List.length_drop, List.length_take]; rfl)) ?_; (with_reducible refine (cmp_isNaN_cardindex_api_Kind.calls a0 true _ A3.out).mono ?_); rintro e w' ⟨rfl, ⟨nd, rfl⟩⟩; refine ⟨_, rfl, ?_⟩) | ((with_reducible refine gate_callee (f := 72) rfl ?_); refine goesL_ (some 10) rfl rfl Tryd.func72 (by kernel_rfl) rfl #[.int .u8 a1] rfl (by (try simp only [List.map_toArray, List.map_cons, List.map_nil]); first | done | rfl | (simp only [List.length_drop, List.length_take]; rfl)) ?_; (with_reducible refine (cmp_isNaN_cardindex_api_Kind.calls a1 true _ A4.out).mono ?_); rintro e w' ⟨rfl, ⟨nd, rfl⟩⟩; refine ⟨_, rfl, ?_⟩))
      go_ret
      exact ⟨by first | rfl | (simp; done) | (simp [*]; done), by repeat (first | exact Drawn0.refl _ | apply Drawn0.step)⟩
    · replace c6 := Bool.eq_false_iff.mpr c6
      subst c6
      have H1 : (some (-1)) = some r := by rw [if_neg (show ¬ (false = true) by decide)] at H; exact H
      clear H
      have H := H1
      clear H1
      obtain rfl := Option.some.inj H
      simp only [Option.some.injEq, Prod.mk.injEq] at H
      obtain ⟨rfl⟩ := H
      go_enter Tryd.func52, Tryd.ntmps52
      go_wp2_with (first | ((with_reducible refine gate_callee (f := 72) rfl ?_); refine goesL_ (some 8) rfl rfl Tryd.func72 (by kernel_rfl) rfl #[.int .u8 a0] rfl (by (try simp only [List.map_toArray, List.map_cons, List.map_nil]); first | done | rfl | (simp only [List.length_drop, List.length_take]; rfl)) ?_; (with_reducible refine (cmp_isNaN_cardindex_api_Kind.calls a0 true _ A3.out).mono ?_); rintro e w' ⟨rfl, ⟨nd, rfl⟩⟩; refine ⟨_, rfl, ?_⟩) | ((with_reducible refine gate_callee (f := 72) rfl ?_); refine goesL_ (some 10) rfl rfl Tryd.func72 (by kernel_rfl) rfl #[.int .u8 a1] rfl (by (try simp only [List.map_toArray, List.map_cons, List.map_nil]); first | done | rfl | (simp only [List.length_drop, List.length_take]; rfl)) ?_; (with_reducible refine (cmp_isNaN_cardindex_api_Kind.calls a1 false _ A4.out).mono ?_); rintro e w' ⟨rfl, ⟨nd, rfl⟩⟩; refine ⟨_, rfl, ?_⟩))
      go_ret
      exact ⟨by first | rfl | (simp; done) | (simp [*]; done), by repeat (first | exact Drawn0.refl _ | apply Drawn0.step)⟩
  · replace c5 := Bool.eq_false_iff.mpr c5
    subst c5
    have H1 : (if t133 = true then (some 1) else (if a0 < a1 then (some (-1)) else (if a0 > a1 then (some 1) else (some 0)))) = some r := by rw [if_neg (show ¬ (false = true) by decide)] at H; exact H
    clear H
    have H := H1
    clear H1
    by_cases c7 : t133 = true
    · subst c7
      have H1 : (some 1) = some r := by rw [if_pos rfl] at H; exact H
      clear H
      have H := H1
      clear H1
      obtain rfl := Option.some.inj H
      simp only [Option.some.injEq, Prod.mk.injEq] at H
      obtain ⟨rfl⟩ := H
      go_enter Tryd.func52, Tryd.ntmps52
      go_wp2_with (first | ((with_reducible refine gate_callee (f := 72) rfl ?_); refine goesL_ (some 8) rfl rfl Tryd.func72 (by kernel_rfl) rfl #[.int .u8 a0] rfl (by (try simp only [List.map_toArray, List.map_cons, List.map_nil]); first | done | rfl | (simp only [List.length_drop, List.length_take]; rfl)) ?_; (with_reducible refine (cmp_isNaN_cardindex_api_Kind.calls a0 false _ A3.out).mono ?_); rintro e w' ⟨rfl, ⟨nd, rfl⟩⟩; refine ⟨_, rfl, ?_⟩) | ((with_reducible refine gate_callee (f := 72) rfl ?_); refine goesL_ (some 10) rfl rfl Tryd.func72 (by kernel_rfl) rfl #[.int .u8 a1] rfl (by (try simp only [List.map_toArray, List.map_cons, List.map_nil]); first | done | rfl | (simp only [List.length_drop, List.length_take]; rfl)) ?_; (with_reducible refine (cmp_isNaN_cardindex_api_Kind.calls a1 true _ A4.out).mono ?_); rintro e w' ⟨rfl, ⟨nd, rfl⟩⟩; refine ⟨_, rfl, ?_⟩))
      go_ret
      exact ⟨by first | rfl | (simp; done) | (simp [*]; done), by repeat (first | exact Drawn0.refl _ | apply Drawn0.step)⟩
    · replace c7 := Bool.eq_false_iff.mpr c7
      subst c7
      have H1 : (if a0 < a1 then (some (-1)) else (if a0 > a1 then (some 1) else (some 0))) = some r := by rw [if_neg (show ¬ (false = true) by decide)] at H; exact H
      clear H
      have H := H1
      clear H1
      by_cases c8 : a0 < a1
      · rw [if_pos c8] at H
        have c8b0 : decide (a0 < a1) = true := decide_eq_true c8
        clear c8
        obtain rfl := Option.some.inj H
        simp only [Option.some.injEq, Prod.mk.injEq] at H
        obtain ⟨rfl⟩ := H
        go_enter Tryd.func52, Tryd.ntmps52
        go_wp2_with (first | ((with_reducible refine gate_callee (f := 72) rfl ?_); refine goesL_ (some 8) rfl rfl Tryd.func72 (by kernel_rfl) rfl #[.int .u8 a0] rfl (by (try simp only [List.map_toArray, List.map_cons, List.map_nil]); first | done | rfl | (simp only [List.length_drop, List.length_take]; rfl)) ?_; (with_reducible refine (cmp_isNaN_cardindex_api_Kind.calls a0 false _ A3.out).mono ?_); rintro e w' ⟨rfl, ⟨nd, rfl⟩⟩; refine ⟨_, rfl, ?_⟩) | ((with_reducible refine gate_callee (f := 72) rfl ?_); refine goesL_ (some 10) rfl rfl Tryd.func72 (by kernel_rfl) rfl #[.int .u8 a1] rfl (by (try simp only [List.map_toArray, List.map_cons, List.map_nil]); first | done | rfl | (simp only [List.length_drop, List.length_take]; rfl)) ?_; (with_reducible refine (cmp_isNaN_cardindex_api_Kind.calls a1 false _ A4.out).mono ?_); rintro e w' ⟨rfl, ⟨nd, rfl⟩⟩; refine ⟨_, rfl, ?_⟩))
        go_ret
        exact ⟨by first | rfl | (simp; done) | (simp [*]; done), by repeat (first | exact Drawn0.refl _ | apply Drawn0.step)⟩
      · rw [if_neg c8] at H
        have c8b0 : decide (a0 < a1) = false := decide_eq_false c8
        clear c8
        by_cases c9 : a0 > a1
        · rw [if_pos c9] at H
          have c9b0 : decide (a1 < a0) = true := decide_eq_true c9
          clear c9
          obtain rfl := Option.some.inj H
          simp only [Option.some.injEq, Prod.mk.injEq] at H
          obtain ⟨rfl⟩ := H
          go_enter Tryd.func52, Tryd.ntmps52
          go_wp2_with (first | ((with_reducible refine gate_callee (f := 72) rfl ?_); refine goesL_ (some 8) rfl rfl Tryd.func72 (by kernel_rfl) rfl #[.int .u8 a0] rfl (by (try simp only [List.map_toArray, List.map_cons, List.map_nil]); first | done | rfl | (simp only [List.length_drop, List.length_take]; rfl)) ?_; (with_reducible refine (cmp_isNaN_cardindex_api_Kind.calls a0 false _ A3.out).mono ?_); rintro e w' ⟨rfl, ⟨nd, rfl⟩⟩; refine ⟨_, rfl, ?_⟩) | ((with_reducible refine gate_callee (f := 72) rfl ?_); refine goesL_ (some 10) rfl rfl Tryd.func72 (by kernel_rfl) rfl #[.int .u8 a1] rfl (by (try simp only [List.map_toArray, List.map_cons, List.map_nil]); first | done | rfl | (simp only [List.length_drop, List.length_take]; rfl)) ?_; (with_reducible refine (cmp_isNaN_cardindex_api_Kind.calls a1 false _ A4.out).mono ?_); rintro e w' ⟨rfl, ⟨nd, rfl⟩⟩; refine ⟨_, rfl, ?_⟩))
          go_ret
          exact ⟨by first | rfl | (simp; done) | (simp [*]; done), by repeat (first | exact Drawn0.refl _ | apply Drawn0.step)⟩
        · rw [if_neg c9] at H
          have c9b0 : decide (a1 < a0) = false := decide_eq_false c9
          clear c9
          obtain rfl := Option.some.inj H
          simp only [Option.some.injEq, Prod.mk.injEq] at H
          obtain ⟨rfl⟩ := H
          go_enter Tryd.func52, Tryd.ntmps52
          go_wp2_with (first | ((with_reducible refine gate_callee (f := 72) rfl ?_); refine goesL_ (some 8) rfl rfl Tryd.func72 (by kernel_rfl) rfl #[.int .u8 a0] rfl (by (try simp only [List.map_toArray, List.map_cons, List.map_nil]); first | done | rfl | (simp only [List.length_drop, List.length_take]; rfl)) ?_; (with_reducible refine (cmp_isNaN_cardindex_api_Kind.calls a0 false _ A3.out).mono ?_); rintro e w' ⟨rfl, ⟨nd, rfl⟩⟩; refine ⟨_, rfl, ?_⟩) | ((with_reducible refine gate_callee (f := 72) rfl ?_); refine goesL_ (some 10) rfl rfl Tryd.func72 (by kernel_rfl) rfl #[.int .u8 a1] rfl (by (try simp only [List.map_toArray, List.map_cons, List.map_nil]); first | done | rfl | (simp only [List.length_drop, List.length_take]; rfl)) ?_; (with_reducible refine (cmp_isNaN_cardindex_api_Kind.calls a1 false _ A4.out).mono ?_); rintro e w' ⟨rfl, ⟨nd, rfl⟩⟩; refine ⟨_, rfl, ?_⟩))
          go_ret
          exact ⟨by first | rfl | (simp; done) | (simp [*]; done), by repeat (first | exact Drawn0.refl _ | apply Drawn0.step)⟩

end Go.Proofs.YtjankdoaobklgaaDoor.Q
end
section
namespace Go.Proofs.YtjankdoaobklgaaDoor.Q
open Go.RowKit Go.Proofs.YtjankdoaobklgaaDoorW.PrintWords Go.Proofs.YtjankdoaobklgaaDoorW.PrintLast Go.Proofs.YtjankdoaobklgaaDoorW.PrintMore
attribute [local go_sem] max2_int min2_int max_two min_two max_three min_three max_four min_four   -- for this text's walks alone
set_option linter.unusedVariables false
set_option linter.unusedSimpArgs false

/-! ### cmp_isNaN_int64: function 73 -/
def cmp_isNaN_int64.f (a0 : Int) : Option (Bool) := some (a0 != a0)
set_option maxHeartbeats 8000000 in
set_option maxRecDepth 100000 in
theorem cmp_isNaN_int64.calls (a0 : Int) (r : Bool) (w : World) (h : cmp_isNaN_int64.f a0 = some r) :
    Calls Tryd.prog 73 #[.int .i64 a0] w fun e w' => e = .returned (.bool r) ∧ Drawn0 w w' := by
  have H : (some (a0 != a0)) = some r := h
  clear h
  obtain rfl := Option.some.inj H
  simp only [Option.some.injEq, Prod.mk.injEq] at H
  obtain ⟨rfl⟩ := H
  go_enter Tryd.func73, Tryd.ntmps73
  go_wp2
  go_ret
  exact ⟨by first | rfl | (simp; done) | (simp [*]; done), by repeat (first | exact Drawn0.refl _ | apply Drawn0.step)⟩

end Go.Proofs.YtjankdoaobklgaaDoor.Q
end
section
namespace Go.Proofs.YtjankdoaobklgaaDoor.Q
open Go.RowKit Go.Proofs.YtjankdoaobklgaaDoorW.PrintWords Go.Proofs.YtjankdoaobklgaaDoorW.PrintLast Go.Proofs.YtjankdoaobklgaaDoorW.PrintMore
attribute [local go_sem] max2_int min2_int max_two min_two max_three min_three max_four min_four   -- for this text's walks alone
set_option linter.unusedVariables false
set_option linter.unusedSimpArgs false

/-! ### cmp_Compare_int64: function 53 -/
def cmp_Compare_int64.f (a0 : Int) (a1 : Int) : Option (Int) := (cmp_isNaN_int64.f a0).bind fun t134 => ((cmp_isNaN_int64.f a1).bind fun t135 => (if t134 = true then (if t135 = true then (some 0) else (some (-1))) else (if t135 = true then (some 1) else (if a0 < a1 then (some (-1)) else (if a0 > a1 then (some 1) else (some 0))))))
set_option maxHeartbeats 8000000 in
set_option maxRecDepth 100000 in
theorem cmp_Compare_int64.calls (a0 : Int) (a1 : Int) (r : Int) (w : World) (h : cmp_Compare_int64.f a0 a1 = some r) :
    Calls Tryd.prog 53 #[.int .i64 a0, .int .i64 a1] w fun e w' => e = .returned (.int .i64 r) ∧ Drawn0 w w' := by
  have H : ((cmp_isNaN_int64.f a0).bind fun t134 => ((cmp_isNaN_int64.f a1).bind fun t135 => (if t134 = true then (if t135 = true then (some 0) else (some (-1))) else (if t135 = true then (some 1) else (if a0 < a1 then (some (-1)) else (if a0 > a1 then (some 1) else (some 0))))))) = some r := h
  clear h
  replace H := Option.bind_eq_some_iff.mp H
  obtain ⟨t134, A30, H⟩ := H
  replace H : ((cmp_isNaN_int64.f a1).bind fun t135 => (if t134 = true then (if t135 = true then (some 0) else (some (-1))) else (if t135 = true then (some 1) else (if a0 < a1 then (some (-1)) else (if a0 > a1 then (some 1) else (some 0)))))) = some r := H
  have A3 := Aside0.mk A30
  clear A30
  replace H := Option.bind_eq_some_iff.mp H
  obtain ⟨t135, A40, H⟩ := H
  replace H : (if t134 = true then (if t135 = true then (some 0) else (some (-1))) else (if t135 = true then (some 1) else (if a0 < a1 then (some (-1)) else (if a0 > a1 then (some 1) else (some 0))))) = some r := H
  have A4 := Aside0.mk A40
  clear A40
  by_cases c5 : t134 = true
  · subst c5
    have H1 : (if t135 = true then (some 0) else (some (-1))) = some r := by rw [if_pos rfl] at H; exact H
    clear H
    have H := H1
    clear H1
    by_cases c6 : t135 = true
    · subst c6
      have H1 : (some 0) = some r := by rw [if_pos rfl] at H; exact H
      clear H
      have H := H1
      clear H1
      obtain rfl := Option.some.inj H
      simp only [Option.some.injEq, Prod.mk.injEq] at H
      obtain ⟨rfl⟩ := H
      go_enter Tryd.func53, Tryd.ntmps53
      go_wp2_with (first | ((with_reducible refine gate_callee (f := 73) rfl ?_); refine goesL_ (some 8) rfl rfl Tryd.func73 (by kernel_rfl) rfl #[.int .i64 a0] rfl (by (try simp only [List.map_toArray, List.map_cons, List.map_nil]); first | done | rfl | (simp only [List.length_drop, List.length_take]; rfl)) ?_; (with_reducible refine (cmp_isNaN_int64.calls a0 true _ A3.out).mono ?_); rintro e w' ⟨rfl, ⟨nd, rfl⟩⟩; refine ⟨_, rfl, ?_⟩) | ((with_reducible refine gate_callee (f := 73) rfl ?_); refine goesL_ (some 10) rfl rfl Tryd.func73 (by kernel_rfl) rfl #[.int .i64 a1] rfl (by (try simp only [List.map_toArray, List.map_cons, List.map_nil]); first | done | rfl | (simp only [List.length_drop, List.length_take]; rfl)) ?_; (with_reducible refine (cmp_isNaN_int64.calls a1 true _ A4.out).mono ?_); rintro e w' ⟨rfl, ⟨nd, rfl⟩⟩; refine ⟨_, rfl, ?_⟩))
      go_ret
      exact ⟨by first | rfl | (simp; done) | (simp [*]; done), by repeat (first | exact Drawn0.refl _ | apply Drawn0.step)⟩
    · replace c6 := Bool.eq_false_iff.mpr c6
      subst c6
      have H1 : (some (-1)) = some r := by rw [if_neg (show ¬ (false = true) by decide)] at H; exact H
      clear H
      have H := H1
      clear H1
      obtain rfl := Option.some.inj H
      simp only [Option.some.injEq, Prod.mk.injEq] at H
      obtain ⟨rfl⟩ := H
      go_enter Tryd.func53, Tryd.ntmps53
      go_wp2_with (first | ((with_reducible refine gate_callee (f := 73) rfl ?_); refine goesL_ (some 8) rfl rfl Tryd.func73 (by kernel_rfl) rfl #[.int .i64 a0] rfl (by (try simp only [List.map_toArray, List.map_cons, List.map_nil]); first | done | rfl | (simp only [List.length_drop, List.length_take]; rfl)) ?_; (with_reducible refine (cmp_isNaN_int64.calls a0 true _ A3.out).mono ?_); rintro e w' ⟨rfl, ⟨nd, rfl⟩⟩; refine ⟨_, rfl, ?_⟩) | ((with_reducible refine gate_callee (f := 73) rfl ?_); refine goesL_ (some 10) rfl rfl Tryd.func73 (by kernel_rfl) rfl #[.int .i64 a1] rfl (by (try simp only [List.map_toArray, List.map_cons, List.map_nil]); first | done | rfl | (simp only [List.length_drop, List.length_take]; rfl)) ?_; (with_reducible refine (cmp_isNaN_int64.calls a1 false _ A4.out).mono ?_); rintro e w' ⟨rfl, ⟨nd, rfl⟩⟩; refine ⟨_, rfl, ?_⟩))
      go_ret
      exact ⟨by first | rfl | (simp; done) | (simp [*]; done), by repeat (first | exact Drawn0.refl _ | apply Drawn0.step)⟩
  · replace c5 := Bool.eq_false_iff.mpr c5
    subst c5
    have H1 : (if t135 = true then (some 1) else (if a0 < a1 then (some (-1)) else (if a0 > a1 then (some 1) else (some 0)))) = some r := by rw [if_neg (show ¬ (false = true) by decide)] at H; exact H
    clear H
    have H := H1
    clear H1
    by_cases c7 : t135 = true
    · subst c7
      have H1 : (some 1) = some r := by rw [if_pos rfl] at H; exact H
      clear H
      have H := H1
      clear H1
      obtain rfl := Option.some.inj H
      simp only [Option.some.injEq, Prod.mk.injEq] at H
      obtain ⟨rfl⟩ := H
      go_enter Tryd.func53, Tryd.ntmps53
      go_wp2_with (first | ((with_reducible refine gate_callee (f := 73) rfl ?_); refine goesL_ (some 8) rfl rfl Tryd.func73 (by kernel_rfl) rfl #[.int .i64 a0] rfl (by (try simp only [List.map_toArray, List.map_cons, List.map_nil]); first | done | rfl | (simp only [List.length_drop, List.length_take]; rfl)) ?_; (with_reducible refine (cmp_isNaN_int64.calls a0 false _ A3.out).mono ?_); rintro e w' ⟨rfl, ⟨nd, rfl⟩⟩; refine ⟨_, rfl, ?_⟩) | ((with_reducible refine gate_callee (f := 73) rfl ?_); refine goesL_ (some 10) rfl rfl Tryd.func73 (by kernel_rfl) rfl #[.int .i64 a1] rfl (by (try simp only [List.map_toArray, List.map_cons, List.map_nil]); first | done | rfl | (simp only [List.length_drop, List.length_take]; rfl)) ?_; (with_reducible refine (cmp_isNaN_int64.calls a1 true _ A4.out).mono ?_); rintro e w' ⟨rfl, ⟨nd, rfl⟩⟩; refine ⟨_, rfl, ?_⟩))
      go_ret
      exact ⟨by first | rfl | (simp; done) | (simp [*]; done), by repeat (first | exact Drawn0.refl _ | apply Drawn0.step)⟩
    · replace c7 := Bool.eq_false_iff.mpr c7
      subst c7
      have H1 : (if a0 < a1 then (some (-1)) else (if a0 > a1 then (some 1) else (some 0))) = some r := by rw [if_neg (show ¬ (false = true) by decide)] at H; exact H
      clear H
      have H := H1
      clear H1
      by_cases c8 : a0 < a1
      · rw [if_pos c8] at H
        have c8b0 : decide (a0 < a1) = true := decide_eq_true c8
        clear c8
        obtain rfl := Option.some.inj H
        simp only [Option.some.injEq, Prod.mk.injEq] at H
        obtain ⟨rfl⟩ := H
        go_enter Tryd.func53, Tryd.ntmps53
        go_wp2_with (first | ((with_reducible refine gate_callee (f := 73) rfl ?_); refine goesL_ (some 8) rfl rfl Tryd.func73 (by kernel_rfl) rfl #[.int .i64 a0] rfl (by (try simp only [List.map_toArray, List.map_cons, List.map_nil]); first | done | rfl | (simp only [List.length_drop, List.length_take]; rfl)) ?_; (with_reducible refine (cmp_isNaN_int64.calls a0 false _ A3.out).mono ?_); rintro e w' ⟨rfl, ⟨nd, rfl⟩⟩; refine ⟨_, rfl, ?_⟩) | ((with_reducible refine gate_callee (f := 73) rfl ?_); refine goesL_ (some 10) rfl rfl Tryd.func73 (by kernel_rfl) rfl #[.int .i64 a1] rfl (by (try simp only [List.map_toArray, List.map_cons, List.map_nil]); first | done | rfl | (simp only [List.length_drop, List.length_take]; rfl)) ?_; (with_reducible refine (cmp_isNaN_int64.calls a1 false _ A4.out).mono ?_); rintro e w' ⟨rfl, ⟨nd, rfl⟩⟩; refine ⟨_, rfl, ?_⟩))
        go_ret
        exact ⟨by first | rfl | (simp; done) | (simp [*]; done), by repeat (first | exact Drawn0.refl _ | apply Drawn0.step)⟩
      · rw [if_neg c8] at H
        have c8b0 : decide (a0 < a1) = false := decide_eq_false c8
        clear c8
        by_cases c9 : a0 > a1
        · rw [if_pos c9] at H
          have c9b0 : decide (a1 < a0) = true := decide_eq_true c9
          clear c9
          obtain rfl := Option.some.inj H
          simp only [Option.some.injEq, Prod.mk.injEq] at H
          obtain ⟨rfl⟩ := H
          go_enter Tryd.func53, Tryd.ntmps53
          go_wp2_with (first | ((with_reducible refine gate_callee (f := 73) rfl ?_); refine goesL_ (some 8) rfl rfl Tryd.func73 (by kernel_rfl) rfl #[.int .i64 a0] rfl (by (try simp only [List.map_toArray, List.map_cons, List.map_nil]); first | done | rfl | (simp only [List.length_drop, List.length_take]; rfl)) ?_; (with_reducible refine (cmp_isNaN_int64.calls a0 false _ A3.out).mono ?_); rintro e w' ⟨rfl, ⟨nd, rfl⟩⟩; refine ⟨_, rfl, ?_⟩) | ((with_reducible refine gate_callee (f := 73) rfl ?_); refine goesL_ (some 10) rfl rfl Tryd.func73 (by kernel_rfl) rfl #[.int .i64 a1] rfl (by (try simp only [List.map_toArray, List.map_cons, List.map_nil]); first | done | rfl | (simp only [List.length_drop, List.length_take]; rfl)) ?_; (with_reducible refine (cmp_isNaN_int64.calls a1 false _ A4.out).mono ?_); rintro e w' ⟨rfl, ⟨nd, rfl⟩⟩; refine ⟨_, rfl, ?_⟩))
          go_ret
          exact ⟨by first | rfl | (simp; done) | (simp [*]; done), by repeat (first | exact Drawn0.refl _ | apply Drawn0.step)⟩
        · rw [if_neg c9] at H
          have c9b0 : decide (a1 < a0) = false := decide_eq_false c9
          clear c9
          obtain rfl := Option.some.inj H
          simp only [Option.some.injEq, Prod.mk.injEq] at H
          obtain ⟨rfl⟩ := H
          go_enter Tryd.func53, Tryd.ntmps53
          go_wp2_with (first | ((with_reducible refine gate_callee (f := 73) rfl ?_); refine goesL_ (some 8) rfl rfl Tryd.func73 (by kernel_rfl) rfl #[.int .i64 a0] rfl (by (try simp only [List.map_toArray, List.map_cons, List.map_nil]); first | done | rfl | (simp only [List.length_drop, List.length_take]; rfl)) ?_; (with_reducible refine (cmp_isNaN_int64.calls a0 false _ A3.out).mono ?_); rintro e w' ⟨rfl, ⟨nd, rfl⟩⟩; refine ⟨_, rfl, ?_⟩) | ((with_reducible refine gate_callee (f := 73) rfl ?_); refine goesL_ (some 10) rfl rfl Tryd.func73 (by kernel_rfl) rfl #[.int .i64 a1] rfl (by (try simp only [List.map_toArray, List.map_cons, List.map_nil]); first | done | rfl | (simp only [List.length_drop, List.length_take]; rfl)) ?_; (with_reducible refine (cmp_isNaN_int64.calls a1 false _ A4.out).mono ?_); rintro e w' ⟨rfl, ⟨nd, rfl⟩⟩; refine ⟨_, rfl, ?_⟩))
          go_ret
          exact ⟨by first | rfl | (simp; done) | (simp [*]; done), by repeat (first | exact Drawn0.refl _ | apply Drawn0.step)⟩

end Go.Proofs.YtjankdoaobklgaaDoor.Q
end
section
namespace Go.Proofs.YtjankdoaobklgaaDoor.Q
open Go.RowKit Go.Proofs.YtjankdoaobklgaaDoorW.PrintWords
def strings_Compare.f (a0 a1 : ByteArray) : Option Int := some (Lib.compareBytes a0.data.toList a1.data.toList)
theorem strings_Compare.calls (a0 a1 : ByteArray) (r : Int) (w : World) (h : strings_Compare.f a0 a1 = some r) :
    Calls Tryd.prog 54 #[.string a0, .string a1] w fun e w' => e = .returned (.int .i64 r) ∧ Drawn0 w w' := by
  obtain rfl := Option.some.inj h
  refine (Tryd.strings_Compare a0 a1 w).mono ?_
  rintro e w' ⟨rfl, rfl⟩
  exact ⟨rfl, Drawn0.refl _⟩
end Go.Proofs.YtjankdoaobklgaaDoor.Q
end
section
namespace Go.Proofs.YtjankdoaobklgaaDoor.Q
open Go.RowKit Go.Proofs.YtjankdoaobklgaaDoorW.PrintWords Go.Proofs.YtjankdoaobklgaaDoorW.PrintLast Go.Proofs.YtjankdoaobklgaaDoorW.PrintMore
attribute [local go_sem] max2_int min2_int max_two min_two max_three min_three max_four min_four   -- for this text's walks alone
set_option linter.unusedVariables false
set_option linter.unusedSimpArgs false

/-! ### value_Compare: function 30 -/
def value_Compare.f (a0_0 : Int) (a0_1 : Int) (a0_2 : ByteArray) (a1_0 : Int) (a1_1 : Int) (a1_2 : ByteArray) : Option (Int) := if a0_0 = a1_0 then (if a0_0 = 1 then ((cmp_Compare_int64.f a0_1 a1_1).bind fun t138 => (some t138)) else (if a0_0 = 2 then ((strings_Compare.f a0_2 a1_2).bind fun t139 => (some t139)) else (if a0_0 = 3 then ((strings_Compare.f a0_2 a1_2).bind fun t140 => (some t140)) else (some 0)))) else ((cmp_Compare_cardindex_api_Kind.f a0_0 a1_0).bind fun t141 => (some t141))
set_option maxHeartbeats 8000000 in
set_option maxRecDepth 100000 in
theorem value_Compare.calls (a0_0 : Int) (a0_1 : Int) (a0_2 : ByteArray) (a1_0 : Int) (a1_1 : Int) (a1_2 : ByteArray) (r : Int) (w : World) (h : value_Compare.f a0_0 a0_1 a0_2 a1_0 a1_1 a1_2 = some r) :
    Calls Tryd.prog 30 #[.agg #[.int .u8 a0_0, .int .i64 a0_1, .string a0_2], .agg #[.int .u8 a1_0, .int .i64 a1_1, .string a1_2]] w fun e w' => e = .returned (.int .i64 r) ∧ Below w.heap.size w w' := by
  have hu24 := Tryd.underlying24
  have HB := Aside0.mk (Below.refl w.heap.size w)
  have H : (if a0_0 = a1_0 then (if a0_0 = 1 then ((cmp_Compare_int64.f a0_1 a1_1).bind fun t138 => (some t138)) else (if a0_0 = 2 then ((strings_Compare.f a0_2 a1_2).bind fun t139 => (some t139)) else (if a0_0 = 3 then ((strings_Compare.f a0_2 a1_2).bind fun t140 => (some t140)) else (some 0)))) else ((cmp_Compare_cardindex_api_Kind.f a0_0 a1_0).bind fun t141 => (some t141))) = some r := h
  clear h
  by_cases c3 : a0_0 = a1_0
  · rw [if_pos c3] at H
    have c3b0 : (a0_0 == a1_0) = true := beq_iff_eq.mpr c3
    have c3b1 : (a0_0 != a1_0) = false := bne_eq_false_iff_eq.mpr c3
    clear c3
    by_cases c4 : a0_0 = 1
    · rw [if_pos c4] at H
      have c4b0 : (a0_0 == 1) = true := beq_iff_eq.mpr c4
      have c4b1 : (a0_0 != 1) = false := bne_eq_false_iff_eq.mpr c4
      clear c4
      replace H := Option.bind_eq_some_iff.mp H
      obtain ⟨t138, A50, H⟩ := H
      replace H : (some t138) = some r := H
      have A5 := Aside0.mk A50
      clear A50
      obtain rfl := Option.some.inj H
      simp only [Option.some.injEq, Prod.mk.injEq] at H
      obtain ⟨rfl⟩ := H
      go_enter Tryd.func30, Tryd.ntmps30
      go_wp2_with (first | ((with_reducible refine gate_dst (N := 2) rfl ?_); refine box_event ?hg (N := 2) ?hd (cs := #[.int .u8 a0_0, .int .i64 a0_1, .string a0_2]) (t := 24) ?hr ?_; (case hd => rfl); (case hg => rfl); (case hr => first | (go_simp; done) | (go_simp; rfl)); intro gb136 hg w6 hbox hb; have n0_ := Aside0.mk (below_step (by repeat (first | (with_reducible first | exact HB.out | apply below_alloc | apply pw_below_drewN | apply below_drew1) | exact HB.out)) hb); have n1_ := Aside0.mk (hbox); have n2_ := Aside0.mk ((by rw [hg]; exact (below_size (by repeat (first | (with_reducible first | exact HB.out | apply below_alloc | apply pw_below_drewN | apply below_drew1) | exact HB.out))) : w.heap.size ≤ gb136)); have n3_ := Aside0.mk ((by rw [hg]; exact (below_size (by repeat (first | (with_reducible first | exact HB.out | apply below_alloc | apply pw_below_drewN | apply below_drew1) | exact HB.out))) : w.heap.size ≤ gb136)); clear HB; have HB := n0_; have BK136 := n1_; have GW136 := n2_; have GE136 := n3_; clear n0_ n1_ n2_ n3_; clear hb hbox hg) | ((with_reducible refine gate_dst (N := 3) rfl ?_); refine box_event ?hg (N := 3) ?hd (cs := #[.int .u8 a1_0, .int .i64 a1_1, .string a1_2]) (t := 24) ?hr ?_; (case hd => rfl); (case hg => rfl); (case hr => first | (go_simp; done) | (go_simp; rfl)); intro gb137 hg w7 hbox hb; have n0_ := Aside0.mk (blk_below (g := gb136) (o := .cells #[.int .u8 a0_0, .int .i64 a0_1, .string a0_2] 24 (0, 0)) (by (with_reducible repeat (first | refine blk_drewN ?_ _ | refine blk_drew ?_ | refine blk_alloc ?_ _)); exact BK136.out) hb); have n1_ := Aside0.mk (below_step (by repeat (first | (with_reducible first | exact HB.out | apply below_alloc | apply pw_below_drewN | apply below_drew1 | refine below_set ?_ GE136.out) | exact HB.out)) hb); have n2_ := Aside0.mk (hbox); have n3_ := Aside0.mk ((by rw [hg]; exact (below_size (by repeat (first | (with_reducible first | exact HB.out | apply below_alloc | apply pw_below_drewN | apply below_drew1 | refine below_set ?_ GE136.out) | exact HB.out))) : w.heap.size ≤ gb137)); have n4_ := Aside0.mk ((by rw [hg]; exact (below_size (by repeat (first | (with_reducible first | exact HB.out | apply below_alloc | apply pw_below_drewN | apply below_drew1 | refine below_set ?_ GE136.out) | exact HB.out))) : w.heap.size ≤ gb137)); have n5_ := Aside0.mk ((by rw [hg]; exact Nat.ne_of_lt (blk_lt (g := gb136) (o := .cells #[.int .u8 a0_0, .int .i64 a0_1, .string a0_2] 24 (0, 0)) (by (with_reducible repeat (first | refine blk_drewN ?_ _ | refine blk_drew ?_ | refine blk_alloc ?_ _)); exact BK136.out)) : gb136 ≠ gb137)); have n6_ := Aside0.mk ((by rw [hg]; exact Nat.ne_of_gt (blk_lt (g := gb136) (o := .cells #[.int .u8 a0_0, .int .i64 a0_1, .string a0_2] 24 (0, 0)) (by (with_reducible repeat (first | refine blk_drewN ?_ _ | refine blk_drew ?_ | refine blk_alloc ?_ _)); exact BK136.out)) : gb137 ≠ gb136)); clear BK136; clear HB; have BK136 := n0_; have HB := n1_; have BK137 := n2_; have GW137 := n3_; have GE137 := n4_; have NB136_137 := n5_; have NB137_136 := n6_; clear n0_ n1_ n2_ n3_ n4_ n5_ n6_; clear hb hbox hg; have hnb8 := NB136_137.out; have hnc8 := NB137_136.out; have hcz9_0 : w7.cell? ⟨gb136, 0, none⟩ = some (.int .u8 a0_0) := (blk_cell BK136.out 0).trans rfl; have hcz9_1 : w7.cell? ⟨gb136, 1, none⟩ = some (.int .i64 a0_1) := (blk_cell BK136.out 1).trans rfl; have hcz9_2 : w7.cell? ⟨gb136, 2, none⟩ = some (.string a0_2) := (blk_cell BK136.out 2).trans rfl; have hfz9_0 := blk_frozen BK136.out 0; have hfz9_1 := blk_frozen BK136.out 1; have hfz9_2 := blk_frozen BK136.out 2; have hcz10_0 : w7.cell? ⟨gb137, 0, none⟩ = some (.int .u8 a1_0) := (blk_cell BK137.out 0).trans rfl; have hcz10_1 : w7.cell? ⟨gb137, 1, none⟩ = some (.int .i64 a1_1) := (blk_cell BK137.out 1).trans rfl; have hcz10_2 : w7.cell? ⟨gb137, 2, none⟩ = some (.string a1_2) := (blk_cell BK137.out 2).trans rfl; have hfz10_0 := blk_frozen BK137.out 0; have hfz10_1 := blk_frozen BK137.out 1; have hfz10_2 := blk_frozen BK137.out 2) | ((with_reducible refine gate_callee (f := 53) rfl ?_); refine goesL_ (some 24) rfl rfl Tryd.func53 (by kernel_rfl) rfl #[.int .i64 a0_1, .int .i64 a1_1] rfl (by (try simp only [List.map_toArray, List.map_cons, List.map_nil]); first | done | rfl | (simp only [List.length_drop, List.length_take]; rfl)) ?_; (with_reducible refine (cmp_Compare_int64.calls a0_1 a1_1 t138 _ A5.out).mono ?_); rintro e w' ⟨rfl, ⟨nd, rfl⟩⟩; refine ⟨_, rfl, ?_⟩))
      go_ret
      exact ⟨by first | rfl | (simp [errW_none, errW_some] <;> rfl) | (simp [*, errW_none, errW_some] <;> rfl), by repeat (first | (with_reducible first | exact HB.out | apply below_alloc | apply pw_below_drewN | apply below_drew1 | refine below_set ?_ GE136.out | refine below_set ?_ GE137.out) | exact HB.out)⟩
    · rw [if_neg c4] at H
      have c4b0 : (a0_0 == 1) = false := beq_eq_false_iff_ne.mpr c4
      have c4b1 : (a0_0 != 1) = true := bne_iff_ne.mpr c4
      by_cases c11 : a0_0 = 2
      · rw [if_pos c11] at H
        have c11b0 : (a0_0 == 2) = true := beq_iff_eq.mpr c11
        have c11b1 : (a0_0 != 2) = false := bne_eq_false_iff_eq.mpr c11
        clear c11
        replace H := Option.bind_eq_some_iff.mp H
        obtain ⟨t139, A120, H⟩ := H
        replace H : (some t139) = some r := H
        have A12 := Aside0.mk A120
        clear A120
        obtain rfl := Option.some.inj H
        simp only [Option.some.injEq, Prod.mk.injEq] at H
        obtain ⟨rfl⟩ := H
        go_enter Tryd.func30, Tryd.ntmps30
        go_wp2_with (first | ((with_reducible refine gate_dst (N := 2) rfl ?_); refine box_event ?hg (N := 2) ?hd (cs := #[.int .u8 a0_0, .int .i64 a0_1, .string a0_2]) (t := 24) ?hr ?_; (case hd => rfl); (case hg => rfl); (case hr => first | (go_simp; done) | (go_simp; rfl)); intro gb136 hg w13 hbox hb; have n0_ := Aside0.mk (below_step (by repeat (first | (with_reducible first | exact HB.out | apply below_alloc | apply pw_below_drewN | apply below_drew1) | exact HB.out)) hb); have n1_ := Aside0.mk (hbox); have n2_ := Aside0.mk ((by rw [hg]; exact (below_size (by repeat (first | (with_reducible first | exact HB.out | apply below_alloc | apply pw_below_drewN | apply below_drew1) | exact HB.out))) : w.heap.size ≤ gb136)); have n3_ := Aside0.mk ((by rw [hg]; exact (below_size (by repeat (first | (with_reducible first | exact HB.out | apply below_alloc | apply pw_below_drewN | apply below_drew1) | exact HB.out))) : w.heap.size ≤ gb136)); clear HB; have HB := n0_; have BK136 := n1_; have GW136 := n2_; have GE136 := n3_; clear n0_ n1_ n2_ n3_; clear hb hbox hg) | ((with_reducible refine gate_dst (N := 3) rfl ?_); refine box_event ?hg (N := 3) ?hd (cs := #[.int .u8 a1_0, .int .i64 a1_1, .string a1_2]) (t := 24) ?hr ?_; (case hd => rfl); (case hg => rfl); (case hr => first | (go_simp; done) | (go_simp; rfl)); intro gb137 hg w14 hbox hb; have n0_ := Aside0.mk (blk_below (g := gb136) (o := .cells #[.int .u8 a0_0, .int .i64 a0_1, .string a0_2] 24 (0, 0)) (by (with_reducible repeat (first | refine blk_drewN ?_ _ | refine blk_drew ?_ | refine blk_alloc ?_ _)); exact BK136.out) hb); have n1_ := Aside0.mk (below_step (by repeat (first | (with_reducible first | exact HB.out | apply below_alloc | apply pw_below_drewN | apply below_drew1 | refine below_set ?_ GE136.out) | exact HB.out)) hb); have n2_ := Aside0.mk (hbox); have n3_ := Aside0.mk ((by rw [hg]; exact (below_size (by repeat (first | (with_reducible first | exact HB.out | apply below_alloc | apply pw_below_drewN | apply below_drew1 | refine below_set ?_ GE136.out) | exact HB.out))) : w.heap.size ≤ gb137)); have n4_ := Aside0.mk ((by rw [hg]; exact (below_size (by repeat (first | (with_reducible first | exact HB.out | apply below_alloc | apply pw_below_drewN | apply below_drew1 | refine below_set ?_ GE136.out) | exact HB.out))) : w.heap.size ≤ gb137)); have n5_ := Aside0.mk ((by rw [hg]; exact Nat.ne_of_lt (blk_lt (g := gb136) (o := .cells #[.int .u8 a0_0, .int .i64 a0_1, .string a0_2] 24 (0, 0)) (by (with_reducible repeat (first | refine blk_drewN ?_ _ | refine blk_drew ?_ | refine blk_alloc ?_ _)); exact BK136.out)) : gb136 ≠ gb137)); have n6_ := Aside0.mk ((by rw [hg]; exact Nat.ne_of_gt (blk_lt (g := gb136) (o := .cells #[.int .u8 a0_0, .int .i64 a0_1, .string a0_2] 24 (0, 0)) (by (with_reducible repeat (first | refine blk_drewN ?_ _ | refine blk_drew ?_ | refine blk_alloc ?_ _)); exact BK136.out)) : gb137 ≠ gb136)); clear BK136; clear HB; have BK136 := n0_; have HB := n1_; have BK137 := n2_; have GW137 := n3_; have GE137 := n4_; have NB136_137 := n5_; have NB137_136 := n6_; clear n0_ n1_ n2_ n3_ n4_ n5_ n6_; clear hb hbox hg; have hnb15 := NB136_137.out; have hnc15 := NB137_136.out; have hcz16_0 : w14.cell? ⟨gb136, 0, none⟩ = some (.int .u8 a0_0) := (blk_cell BK136.out 0).trans rfl; have hcz16_1 : w14.cell? ⟨gb136, 1, none⟩ = some (.int .i64 a0_1) := (blk_cell BK136.out 1).trans rfl; have hcz16_2 : w14.cell? ⟨gb136, 2, none⟩ = some (.string a0_2) := (blk_cell BK136.out 2).trans rfl; have hfz16_0 := blk_frozen BK136.out 0; have hfz16_1 := blk_frozen BK136.out 1; have hfz16_2 := blk_frozen BK136.out 2; have hcz17_0 : w14.cell? ⟨gb137, 0, none⟩ = some (.int .u8 a1_0) := (blk_cell BK137.out 0).trans rfl; have hcz17_1 : w14.cell? ⟨gb137, 1, none⟩ = some (.int .i64 a1_1) := (blk_cell BK137.out 1).trans rfl; have hcz17_2 : w14.cell? ⟨gb137, 2, none⟩ = some (.string a1_2) := (blk_cell BK137.out 2).trans rfl; have hfz17_0 := blk_frozen BK137.out 0; have hfz17_1 := blk_frozen BK137.out 1; have hfz17_2 := blk_frozen BK137.out 2) | ((with_reducible refine gate_callee (f := 54) rfl ?_); refine goesL_ (some 38) rfl rfl Tryd.func54 (by kernel_rfl) rfl #[.string a0_2, .string a1_2] rfl (by (try simp only [List.map_toArray, List.map_cons, List.map_nil]); first | done | rfl | (simp only [List.length_drop, List.length_take]; rfl)) ?_; (with_reducible refine (strings_Compare.calls a0_2 a1_2 t139 _ A12.out).mono ?_); rintro e w' ⟨rfl, ⟨nd, rfl⟩⟩; refine ⟨_, rfl, ?_⟩))
        go_ret
        exact ⟨by first | rfl | (simp [errW_none, errW_some] <;> rfl) | (simp [*, errW_none, errW_some] <;> rfl), by repeat (first | (with_reducible first | exact HB.out | apply below_alloc | apply pw_below_drewN | apply below_drew1 | refine below_set ?_ GE136.out | refine below_set ?_ GE137.out) | exact HB.out)⟩
      · rw [if_neg c11] at H
        have c11b0 : (a0_0 == 2) = false := beq_eq_false_iff_ne.mpr c11
        have c11b1 : (a0_0 != 2) = true := bne_iff_ne.mpr c11
        by_cases c18 : a0_0 = 3
        · rw [if_pos c18] at H
          have c18b0 : (a0_0 == 3) = true := beq_iff_eq.mpr c18
          have c18b1 : (a0_0 != 3) = false := bne_eq_false_iff_eq.mpr c18
          clear c18
          replace H := Option.bind_eq_some_iff.mp H
          obtain ⟨t140, A190, H⟩ := H
          replace H : (some t140) = some r := H
          have A19 := Aside0.mk A190
          clear A190
          obtain rfl := Option.some.inj H
          simp only [Option.some.injEq, Prod.mk.injEq] at H
          obtain ⟨rfl⟩ := H
          go_enter Tryd.func30, Tryd.ntmps30
          go_wp2_with (first | ((with_reducible refine gate_dst (N := 2) rfl ?_); refine box_event ?hg (N := 2) ?hd (cs := #[.int .u8 a0_0, .int .i64 a0_1, .string a0_2]) (t := 24) ?hr ?_; (case hd => rfl); (case hg => rfl); (case hr => first | (go_simp; done) | (go_simp; rfl)); intro gb136 hg w20 hbox hb; have n0_ := Aside0.mk (below_step (by repeat (first | (with_reducible first | exact HB.out | apply below_alloc | apply pw_below_drewN | apply below_drew1) | exact HB.out)) hb); have n1_ := Aside0.mk (hbox); have n2_ := Aside0.mk ((by rw [hg]; exact (below_size (by repeat (first | (with_reducible first | exact HB.out | apply below_alloc | apply pw_below_drewN | apply below_drew1) | exact HB.out))) : w.heap.size ≤ gb136)); have n3_ := Aside0.mk ((by rw [hg]; exact (below_size (by repeat (first | (with_reducible first | exact HB.out | apply below_alloc | apply pw_below_drewN | apply below_drew1) | exact HB.out))) : w.heap.size ≤ gb136)); clear HB; have HB := n0_; have BK136 := n1_; have GW136 := n2_; have GE136 := n3_; clear n0_ n1_ n2_ n3_; clear hb hbox hg) | ((with_reducible refine gate_dst (N := 3) rfl ?_); refine box_event ?hg (N := 3) ?hd (cs := #[.int .u8 a1_0, .int .i64 a1_1, .string a1_2]) (t := 24) ?hr ?_; (case hd => rfl); (case hg => rfl); (case hr => first | (go_simp; done) | (go_simp; rfl)); intro gb137 hg w21 hbox hb; have n0_ := Aside0.mk (blk_below (g := gb136) (o := .cells #[.int .u8 a0_0, .int .i64 a0_1, .string a0_2] 24 (0, 0)) (by (with_reducible repeat (first | refine blk_drewN ?_ _ | refine blk_drew ?_ | refine blk_alloc ?_ _)); exact BK136.out) hb); have n1_ := Aside0.mk (below_step (by repeat (first | (with_reducible first | exact HB.out | apply below_alloc | apply pw_below_drewN | apply below_drew1 | refine below_set ?_ GE136.out) | exact HB.out)) hb); have n2_ := Aside0.mk (hbox); have n3_ := Aside0.mk ((by rw [hg]; exact (below_size (by repeat (first | (with_reducible first | exact HB.out | apply below_alloc | apply pw_below_drewN | apply below_drew1 | refine below_set ?_ GE136.out) | exact HB.out))) : w.heap.size ≤ gb137)); have n4_ := Aside0.mk ((by rw [hg]; exact (below_size (by repeat (first | (with_reducible first | exact HB.out | apply below_alloc | apply pw_below_drewN | apply below_drew1 | refine below_set ?_ GE136.out) | exact HB.out))) : w.heap.size ≤ gb137)); have n5_ := Aside0.mk ((by rw [hg]; exact Nat.ne_of_lt (blk_lt (g := gb136) (o := .cells #[.int .u8 a0_0, .int .i64 a0_1, .string a0_2] 24 (0, 0)) (by (with_reducible repeat (first | refine blk_drewN ?_ _ | refine blk_drew ?_ | refine blk_alloc ?_ _)); exact BK136.out)) : gb136 ≠ gb137)); have n6_ := Aside0.mk ((by rw [hg]; exact Nat.ne_of_gt (blk_lt (g := gb136) (o := .cells #[.int .u8 a0_0, .int .i64 a0_1, .string a0_2] 24 (0, 0)) (by (with_reducible repeat (first | refine blk_drewN ?_ _ | refine blk_drew ?_ | refine blk_alloc ?_ _)); exact BK136.out)) : gb137 ≠ gb136)); clear BK136; clear HB; have BK136 := n0_; have HB := n1_; have BK137 := n2_; have GW137 := n3_; have GE137 := n4_; have NB136_137 := n5_; have NB137_136 := n6_; clear n0_ n1_ n2_ n3_ n4_ n5_ n6_; clear hb hbox hg; have hnb22 := NB136_137.out; have hnc22 := NB137_136.out; have hcz23_0 : w21.cell? ⟨gb136, 0, none⟩ = some (.int .u8 a0_0) := (blk_cell BK136.out 0).trans rfl; have hcz23_1 : w21.cell? ⟨gb136, 1, none⟩ = some (.int .i64 a0_1) := (blk_cell BK136.out 1).trans rfl; have hcz23_2 : w21.cell? ⟨gb136, 2, none⟩ = some (.string a0_2) := (blk_cell BK136.out 2).trans rfl; have hfz23_0 := blk_frozen BK136.out 0; have hfz23_1 := blk_frozen BK136.out 1; have hfz23_2 := blk_frozen BK136.out 2; have hcz24_0 : w21.cell? ⟨gb137, 0, none⟩ = some (.int .u8 a1_0) := (blk_cell BK137.out 0).trans rfl; have hcz24_1 : w21.cell? ⟨gb137, 1, none⟩ = some (.int .i64 a1_1) := (blk_cell BK137.out 1).trans rfl; have hcz24_2 : w21.cell? ⟨gb137, 2, none⟩ = some (.string a1_2) := (blk_cell BK137.out 2).trans rfl; have hfz24_0 := blk_frozen BK137.out 0; have hfz24_1 := blk_frozen BK137.out 1; have hfz24_2 := blk_frozen BK137.out 2) | ((with_reducible refine gate_callee (f := 54) rfl ?_); refine goesL_ (some 38) rfl rfl Tryd.func54 (by kernel_rfl) rfl #[.string a0_2, .string a1_2] rfl (by (try simp only [List.map_toArray, List.map_cons, List.map_nil]); first | done | rfl | (simp only [List.length_drop, List.length_take]; rfl)) ?_; (with_reducible refine (strings_Compare.calls a0_2 a1_2 t140 _ A19.out).mono ?_); rintro e w' ⟨rfl, ⟨nd, rfl⟩⟩; refine ⟨_, rfl, ?_⟩))
          go_ret
          exact ⟨by first | rfl | (simp [errW_none, errW_some] <;> rfl) | (simp [*, errW_none, errW_some] <;> rfl), by repeat (first | (with_reducible first | exact HB.out | apply below_alloc | apply pw_below_drewN | apply below_drew1 | refine below_set ?_ GE136.out | refine below_set ?_ GE137.out) | exact HB.out)⟩
        · rw [if_neg c18] at H
          have c18b0 : (a0_0 == 3) = false := beq_eq_false_iff_ne.mpr c18
          have c18b1 : (a0_0 != 3) = true := bne_iff_ne.mpr c18
          obtain rfl := Option.some.inj H
          simp only [Option.some.injEq, Prod.mk.injEq] at H
          obtain ⟨rfl⟩ := H
          go_enter Tryd.func30, Tryd.ntmps30
          go_wp2_with (first | ((with_reducible refine gate_dst (N := 2) rfl ?_); refine box_event ?hg (N := 2) ?hd (cs := #[.int .u8 a0_0, .int .i64 a0_1, .string a0_2]) (t := 24) ?hr ?_; (case hd => rfl); (case hg => rfl); (case hr => first | (go_simp; done) | (go_simp; rfl)); intro gb136 hg w25 hbox hb; have n0_ := Aside0.mk (below_step (by repeat (first | (with_reducible first | exact HB.out | apply below_alloc | apply pw_below_drewN | apply below_drew1) | exact HB.out)) hb); have n1_ := Aside0.mk (hbox); have n2_ := Aside0.mk ((by rw [hg]; exact (below_size (by repeat (first | (with_reducible first | exact HB.out | apply below_alloc | apply pw_below_drewN | apply below_drew1) | exact HB.out))) : w.heap.size ≤ gb136)); have n3_ := Aside0.mk ((by rw [hg]; exact (below_size (by repeat (first | (with_reducible first | exact HB.out | apply below_alloc | apply pw_below_drewN | apply below_drew1) | exact HB.out))) : w.heap.size ≤ gb136)); clear HB; have HB := n0_; have BK136 := n1_; have GW136 := n2_; have GE136 := n3_; clear n0_ n1_ n2_ n3_; clear hb hbox hg) | ((with_reducible refine gate_dst (N := 3) rfl ?_); refine box_event ?hg (N := 3) ?hd (cs := #[.int .u8 a1_0, .int .i64 a1_1, .string a1_2]) (t := 24) ?hr ?_; (case hd => rfl); (case hg => rfl); (case hr => first | (go_simp; done) | (go_simp; rfl)); intro gb137 hg w26 hbox hb; have n0_ := Aside0.mk (blk_below (g := gb136) (o := .cells #[.int .u8 a0_0, .int .i64 a0_1, .string a0_2] 24 (0, 0)) (by (with_reducible repeat (first | refine blk_drewN ?_ _ | refine blk_drew ?_ | refine blk_alloc ?_ _)); exact BK136.out) hb); have n1_ := Aside0.mk (below_step (by repeat (first | (with_reducible first | exact HB.out | apply below_alloc | apply pw_below_drewN | apply below_drew1 | refine below_set ?_ GE136.out) | exact HB.out)) hb); have n2_ := Aside0.mk (hbox); have n3_ := Aside0.mk ((by rw [hg]; exact (below_size (by repeat (first | (with_reducible first | exact HB.out | apply below_alloc | apply pw_below_drewN | apply below_drew1 | refine below_set ?_ GE136.out) | exact HB.out))) : w.heap.size ≤ gb137)); have n4_ := Aside0.mk ((by rw [hg]; exact (below_size (by repeat (first | (with_reducible first | exact HB.out | apply below_alloc | apply pw_below_drewN | apply below_drew1 | refine below_set ?_ GE136.out) | exact HB.out))) : w.heap.size ≤ gb137)); have n5_ := Aside0.mk ((by rw [hg]; exact Nat.ne_of_lt (blk_lt (g := gb136) (o := .cells #[.int .u8 a0_0, .int .i64 a0_1, .string a0_2] 24 (0, 0)) (by (with_reducible repeat (first | refine blk_drewN ?_ _ | refine blk_drew ?_ | refine blk_alloc ?_ _)); exact BK136.out)) : gb136 ≠ gb137)); have n6_ := Aside0.mk ((by rw [hg]; exact Nat.ne_of_gt (blk_lt (g := gb136) (o := .cells #[.int .u8 a0_0, .int .i64 a0_1, .string a0_2] 24 (0, 0)) (by (with_reducible repeat (first | refine blk_drewN ?_ _ | refine blk_drew ?_ | refine blk_alloc ?_ _)); exact BK136.out)) : gb137 ≠ gb136)); clear BK136; clear HB; have BK136 := n0_; have HB := n1_; have BK137 := n2_; have GW137 := n3_; have GE137 := n4_; have NB136_137 := n5_; have NB137_136 := n6_; clear n0_ n1_ n2_ n3_ n4_ n5_ n6_; clear hb hbox hg; have hnb27 := NB136_137.out; have hnc27 := NB137_136.out; have hcz28_0 : w26.cell? ⟨gb136, 0, none⟩ = some (.int .u8 a0_0) := (blk_cell BK136.out 0).trans rfl; have hcz28_1 : w26.cell? ⟨gb136, 1, none⟩ = some (.int .i64 a0_1) := (blk_cell BK136.out 1).trans rfl; have hcz28_2 : w26.cell? ⟨gb136, 2, none⟩ = some (.string a0_2) := (blk_cell BK136.out 2).trans rfl; have hfz28_0 := blk_frozen BK136.out 0; have hfz28_1 := blk_frozen BK136.out 1; have hfz28_2 := blk_frozen BK136.out 2; have hcz29_0 : w26.cell? ⟨gb137, 0, none⟩ = some (.int .u8 a1_0) := (blk_cell BK137.out 0).trans rfl; have hcz29_1 : w26.cell? ⟨gb137, 1, none⟩ = some (.int .i64 a1_1) := (blk_cell BK137.out 1).trans rfl; have hcz29_2 : w26.cell? ⟨gb137, 2, none⟩ = some (.string a1_2) := (blk_cell BK137.out 2).trans rfl; have hfz29_0 := blk_frozen BK137.out 0; have hfz29_1 := blk_frozen BK137.out 1; have hfz29_2 := blk_frozen BK137.out 2))
          go_ret
          exact ⟨by first | rfl | (simp [errW_none, errW_some] <;> rfl) | (simp [*, errW_none, errW_some] <;> rfl), by repeat (first | (with_reducible first | exact HB.out | apply below_alloc | apply pw_below_drewN | apply below_drew1 | refine below_set ?_ GE136.out | refine below_set ?_ GE137.out) | exact HB.out)⟩
  · rw [if_neg c3] at H
    have c3b0 : (a0_0 == a1_0) = false := beq_eq_false_iff_ne.mpr c3
    have c3b1 : (a0_0 != a1_0) = true := bne_iff_ne.mpr c3
    replace H := Option.bind_eq_some_iff.mp H
    obtain ⟨t141, A300, H⟩ := H
    replace H : (some t141) = some r := H
    have A30 := Aside0.mk A300
    clear A300
    obtain rfl := Option.some.inj H
    simp only [Option.some.injEq, Prod.mk.injEq] at H
    obtain ⟨rfl⟩ := H
    go_enter Tryd.func30, Tryd.ntmps30
    go_wp2_with (first | ((with_reducible refine gate_dst (N := 2) rfl ?_); refine box_event ?hg (N := 2) ?hd (cs := #[.int .u8 a0_0, .int .i64 a0_1, .string a0_2]) (t := 24) ?hr ?_; (case hd => rfl); (case hg => rfl); (case hr => first | (go_simp; done) | (go_simp; rfl)); intro gb136 hg w31 hbox hb; have n0_ := Aside0.mk (below_step (by repeat (first | (with_reducible first | exact HB.out | apply below_alloc | apply pw_below_drewN | apply below_drew1) | exact HB.out)) hb); have n1_ := Aside0.mk (hbox); have n2_ := Aside0.mk ((by rw [hg]; exact (below_size (by repeat (first | (with_reducible first | exact HB.out | apply below_alloc | apply pw_below_drewN | apply below_drew1) | exact HB.out))) : w.heap.size ≤ gb136)); have n3_ := Aside0.mk ((by rw [hg]; exact (below_size (by repeat (first | (with_reducible first | exact HB.out | apply below_alloc | apply pw_below_drewN | apply below_drew1) | exact HB.out))) : w.heap.size ≤ gb136)); clear HB; have HB := n0_; have BK136 := n1_; have GW136 := n2_; have GE136 := n3_; clear n0_ n1_ n2_ n3_; clear hb hbox hg) | ((with_reducible refine gate_dst (N := 3) rfl ?_); refine box_event ?hg (N := 3) ?hd (cs := #[.int .u8 a1_0, .int .i64 a1_1, .string a1_2]) (t := 24) ?hr ?_; (case hd => rfl); (case hg => rfl); (case hr => first | (go_simp; done) | (go_simp; rfl)); intro gb137 hg w32 hbox hb; have n0_ := Aside0.mk (blk_below (g := gb136) (o := .cells #[.int .u8 a0_0, .int .i64 a0_1, .string a0_2] 24 (0, 0)) (by (with_reducible repeat (first | refine blk_drewN ?_ _ | refine blk_drew ?_ | refine blk_alloc ?_ _)); exact BK136.out) hb); have n1_ := Aside0.mk (below_step (by repeat (first | (with_reducible first | exact HB.out | apply below_alloc | apply pw_below_drewN | apply below_drew1 | refine below_set ?_ GE136.out) | exact HB.out)) hb); have n2_ := Aside0.mk (hbox); have n3_ := Aside0.mk ((by rw [hg]; exact (below_size (by repeat (first | (with_reducible first | exact HB.out | apply below_alloc | apply pw_below_drewN | apply below_drew1 | refine below_set ?_ GE136.out) | exact HB.out))) : w.heap.size ≤ gb137)); have n4_ := Aside0.mk ((by rw [hg]; exact (below_size (by repeat (first | (with_reducible first | exact HB.out | apply below_alloc | apply pw_below_drewN | apply below_drew1 | refine below_set ?_ GE136.out) | exact HB.out))) : w.heap.size ≤ gb137)); have n5_ := Aside0.mk ((by rw [hg]; exact Nat.ne_of_lt (blk_lt (g := gb136) (o := .cells #[.int .u8 a0_0, .int .i64 a0_1, .string a0_2] 24 (0, 0)) (by (with_reducible repeat (first | refine blk_drewN ?_ _ | refine blk_drew ?_ | refine blk_alloc ?_ _)); exact BK136.out)) : gb136 ≠ gb137)); have n6_ := Aside0.mk ((by rw [hg]; exact Nat.ne_of_gt (blk_lt (g := gb136) (o := .cells #[.int .u8 a0_0, .int .i64 a0_1, .string a0_2] 24 (0, 0)) (by (with_reducible repeat (first | refine blk_drewN ?_ _ | refine blk_drew ?_ | refine blk_alloc ?_ _)); exact BK136.out)) : gb137 ≠ gb136)); clear BK136; clear HB; have BK136 := n0_; have HB := n1_; have BK137 := n2_; have GW137 := n3_; have GE137 := n4_; have NB136_137 := n5_; have NB137_136 := n6_; clear n0_ n1_ n2_ n3_ n4_ n5_ n6_; clear hb hbox hg; have hnb33 := NB136_137.out; have hnc33 := NB137_136.out; have hcz34_0 : w32.cell? ⟨gb136, 0, none⟩ = some (.int .u8 a0_0) := (blk_cell BK136.out 0).trans rfl; have hcz34_1 : w32.cell? ⟨gb136, 1, none⟩ = some (.int .i64 a0_1) := (blk_cell BK136.out 1).trans rfl; have hcz34_2 : w32.cell? ⟨gb136, 2, none⟩ = some (.string a0_2) := (blk_cell BK136.out 2).trans rfl; have hfz34_0 := blk_frozen BK136.out 0; have hfz34_1 := blk_frozen BK136.out 1; have hfz34_2 := blk_frozen BK136.out 2; have hcz35_0 : w32.cell? ⟨gb137, 0, none⟩ = some (.int .u8 a1_0) := (blk_cell BK137.out 0).trans rfl; have hcz35_1 : w32.cell? ⟨gb137, 1, none⟩ = some (.int .i64 a1_1) := (blk_cell BK137.out 1).trans rfl; have hcz35_2 : w32.cell? ⟨gb137, 2, none⟩ = some (.string a1_2) := (blk_cell BK137.out 2).trans rfl; have hfz35_0 := blk_frozen BK137.out 0; have hfz35_1 := blk_frozen BK137.out 1; have hfz35_2 := blk_frozen BK137.out 2) | ((with_reducible refine gate_callee (f := 52) rfl ?_); refine goesL_ (some 15) rfl rfl Tryd.func52 (by kernel_rfl) rfl #[.int .u8 a0_0, .int .u8 a1_0] rfl (by (try simp only [List.map_toArray, List.map_cons, List.map_nil]); first | done | rfl | (simp only [List.length_drop, List.length_take]; rfl)) ?_; (with_reducible refine (cmp_Compare_cardindex_api_Kind.calls a0_0 a1_0 t141 _ A30.out).mono ?_); rintro e w' ⟨rfl, ⟨nd, rfl⟩⟩; refine ⟨_, rfl, ?_⟩))
    go_ret
    exact ⟨by first | rfl | (simp [errW_none, errW_some] <;> rfl) | (simp [*, errW_none, errW_some] <;> rfl), by repeat (first | (with_reducible first | exact HB.out | apply below_alloc | apply pw_below_drewN | apply below_drew1 | refine below_set ?_ GE136.out | refine below_set ?_ GE137.out) | exact HB.out)⟩

end Go.Proofs.YtjankdoaobklgaaDoor.Q
end
section
namespace Go.Proofs.YtjankdoaobklgaaDoor.Q
open Go.RowKit Go.Proofs.YtjankdoaobklgaaDoorW.PrintWords Go.Proofs.YtjankdoaobklgaaDoorW.PrintLast Go.Proofs.YtjankdoaobklgaaDoorW.PrintMore

/-- a value's number -/
def intO (x : S24) : Option Int := value_Int.f (4 * x.f2.size + 50) x.f0 x.f1 x.f2
theorem intO_f {x : S24} {r : Int} (h : intO x = some r) : ∃ k, value_Int.f k x.f0 x.f1 x.f2 = some r := ⟨_, h⟩
/-- two values' order -/
def cmpO (x y : S24) : Option Int := value_Compare.f x.f0 x.f1 x.f2 y.f0 y.f1 y.f2

section
variable {w w1 : World} {B g m : Nat} {P : Nat → Prop} {s s' : AccS} {lv : Value} {D : DataW Unit}
/-- An Acc whose own block alone has turned. -/
theorem IsAcc.store (h : IsAcc w B P g s lv m D) (hT : Turns w w1 (fun k => k = g)) (hb : w1.heap[g]? = some (.cells (accCells s' lv m) 31 (0, 0))) (hl : s'.l = s.l) (hs : s'.seen = s.seen) (h0 : 0 ≤ s'.hi) (h1 : 0 ≤ s'.lo) (h2 : s'.lo < 18446744073709551616) : IsAcc w1 B P g s' lv m D :=
  ⟨hb, h.pg, by
    rw [hl]
    exact Kd.R_mono (Kd.R_kept (Kd.R_types h.row h.blk v_ne31) hT.kept (fun k hk => hk.2)) (fun k hk => hk.1), h.pm, by
    rw [hs]
    exact map_move h.map (hT.kept.2 m h.map.lt (own_map_ne h.map h.blk)), by rw [hs]; exact h.seen, h0, h1, h2⟩
end
abbrev vcells (x : S24) : Array Value := #[.int .u8 x.f0, .int .i64 x.f1, .string x.f2]

set_option maxHeartbeats 8000000 in
set_option maxRecDepth 100000 in
theorem step_sum (ba bv g m B : Nat) (P : Nat → Prop) (s : AccS) (lv : Value) (D : DataW Unit) (x : S24) (r : Int) (w : World) (h1 : w.heap[ba]? = some (.cells #[.pointer (some ⟨g, 0, none⟩)] 25 (0, 0))) (h2 : w.heap[bv]? = some (.cells (vcells x) 24 (0, 0))) (ha : IsAcc w B P g s lv m D) (hi : intO x = some r) :
    Calls Tryd.prog 31 #[.pointer (some ⟨ba, 0, none⟩), .pointer (some ⟨bv, 0, none⟩)] w fun e w' => e = .returned (.tuple #[]) ∧ IsAcc w' B P g { s with hi := addHi s.hi s.lo r, lo := addLo s.lo r } lv m D ∧ Turns w w' (fun k => k = g) := by
  obtain ⟨kf, hkf⟩ := intO_f hi
  have HF := Aside0.mk hkf
  have HA := Aside0.mk ha
  have hne1 : ¬ g = ba := blk_ne ha.blk h1 (by decide)
  have hne2 : ¬ g = bv := blk_ne ha.blk h2 (by decide)
  have HN := Aside0.mk (And.intro hne1 hne2)
  have hc0 : w.cell? ⟨ba, 0, none⟩ = some (.pointer (some ⟨g, 0, none⟩)) := (blk_cell h1 0).trans rfl
  have hc1 : w.cell? ⟨bv, 0, none⟩ = some (.int .u8 x.f0) := (blk_cell h2 0).trans rfl
  have hc2 : w.cell? ⟨bv, 1, none⟩ = some (.int .i64 x.f1) := (blk_cell h2 1).trans rfl
  have hc3 : w.cell? ⟨bv, 2, none⟩ = some (.string x.f2) := (blk_cell h2 2).trans rfl
  have hu1 := Tryd.underlying24
  clear h1 h2 ha hi hkf
  go_enter Tryd.func31, Tryd.ntmps31
  go_region_held3 (fun w' => w'.cell? ⟨ba, 0, none⟩ = some (.pointer (some ⟨g, 0, none⟩)) ∧ w'.cell? ⟨bv, 0, none⟩ = some (.int .u8 x.f0) ∧ w'.cell? ⟨bv, 1, none⟩ = some (.int .i64 x.f1) ∧ w'.cell? ⟨bv, 2, none⟩ = some (.string x.f2)) (first | go_keep | trivial) (first
    | (go_at_call 18; refine (value_Int.calls kf x.f0 x.f1 x.f2 r _ HF.out).mono ?_; rintro e w5 ⟨rfl, hb⟩; have HT5 := Aside0.mk (Turns.of_below hb (fun k => k = g)); have HA5 := Aside0.mk ((show IsAcc w.drew B P g s lv m D from HA.out.below (Below.refl _ _).drew).below hb); have hc50 := pw_cell_below (w := w.drew) hb hc0; have hc51 := pw_cell_below (w := w.drew) hb hc1; have hc52 := pw_cell_below (w := w.drew) hb hc2; have hc53 := pw_cell_below (w := w.drew) hb hc3; clear hb)
    | (go_at_call 32; refine (agg_add g m s lv r w5 HA5.out.blk HA5.out.hi0 HA5.out.lo0 HA5.out.lo1).mono ?_; rintro e w6 ⟨rfl, hw⟩; have HW6 := Aside0.mk hw; have HT6 := Aside0.mk (show Turns w5 w6 (fun k => k = g) from by rw [hw]; exact ((Turns.refl w5 (fun k => k = g)).setCell (.inl rfl) _).setCell (.inl rfl) _); have hc60 := cell_kept hc50 HT6.out.kept (fun h => HN.out.1 h.symm); have hc61 := cell_kept hc51 HT6.out.kept (fun h => HN.out.2 h.symm); have hc62 := cell_kept hc52 HT6.out.kept (fun h => HN.out.2 h.symm); have hc63 := cell_kept hc53 HT6.out.kept (fun h => HN.out.2 h.symm); clear hw))
  go_end0
  have hb6 : w6.heap[g]? = some (.cells (accCells { s with hi := addHi s.hi s.lo r, lo := addLo s.lo r } lv m) 31 (0, 0)) := by
    rw [HW6.out]
    exact blk_put (blk_put HA5.out.blk 3 (.int .u64 (addHi s.hi s.lo r)) rfl) 4 (.int .u64 (addLo s.lo r)) rfl
  exact ⟨rfl, HA5.out.store HT6.out hb6 rfl rfl (by show 0 ≤ addHi _ _ _; unfold addHi; omega) (by show 0 ≤ addLo _ _; unfold addLo; omega) (by show addLo _ _ < _; unfold addLo; omega), (Turns.refl w (fun k => k = g)).drew.then_ (HT5.out.then_ HT6.out (fun k hk => .inl hk)) (fun k hk => .inl hk)⟩

set_option maxHeartbeats 8000000 in
set_option maxRecDepth 100000 in
theorem step_total (ba bv g m B : Nat) (P : Nat → Prop) (s : AccS) (lv : Value) (D : DataW Unit) (x : S24) (r : Int) (w : World) (h1 : w.heap[ba]? = some (.cells #[.pointer (some ⟨g, 0, none⟩)] 25 (0, 0))) (h2 : w.heap[bv]? = some (.cells (vcells x) 24 (0, 0))) (ha : IsAcc w B P g s lv m D) (hi : intO x = some r) :
    Calls Tryd.prog 33 #[.pointer (some ⟨ba, 0, none⟩), .pointer (some ⟨bv, 0, none⟩)] w fun e w' => e = .returned (.tuple #[]) ∧ IsAcc w' B P g { s with hi := addHi s.hi s.lo r, lo := addLo s.lo r } lv m D ∧ Turns w w' (fun k => k = g) := by
  obtain ⟨kf, hkf⟩ := intO_f hi
  have HF := Aside0.mk hkf
  have HA := Aside0.mk ha
  have hne1 : ¬ g = ba := blk_ne ha.blk h1 (by decide)
  have hne2 : ¬ g = bv := blk_ne ha.blk h2 (by decide)
  have HN := Aside0.mk (And.intro hne1 hne2)
  have hc0 : w.cell? ⟨ba, 0, none⟩ = some (.pointer (some ⟨g, 0, none⟩)) := (blk_cell h1 0).trans rfl
  have hc1 : w.cell? ⟨bv, 0, none⟩ = some (.int .u8 x.f0) := (blk_cell h2 0).trans rfl
  have hc2 : w.cell? ⟨bv, 1, none⟩ = some (.int .i64 x.f1) := (blk_cell h2 1).trans rfl
  have hc3 : w.cell? ⟨bv, 2, none⟩ = some (.string x.f2) := (blk_cell h2 2).trans rfl
  have hu1 := Tryd.underlying24
  clear h1 h2 ha hi hkf
  go_enter Tryd.func33, Tryd.ntmps33
  go_region_held3 (fun w' => w'.cell? ⟨ba, 0, none⟩ = some (.pointer (some ⟨g, 0, none⟩)) ∧ w'.cell? ⟨bv, 0, none⟩ = some (.int .u8 x.f0) ∧ w'.cell? ⟨bv, 1, none⟩ = some (.int .i64 x.f1) ∧ w'.cell? ⟨bv, 2, none⟩ = some (.string x.f2)) (first | go_keep | trivial) (first
    | (go_at_call 18; refine (value_Int.calls kf x.f0 x.f1 x.f2 r _ HF.out).mono ?_; rintro e w5 ⟨rfl, hb⟩; have HT5 := Aside0.mk (Turns.of_below hb (fun k => k = g)); have HA5 := Aside0.mk ((show IsAcc w.drew B P g s lv m D from HA.out.below (Below.refl _ _).drew).below hb); have hc50 := pw_cell_below (w := w.drew) hb hc0; have hc51 := pw_cell_below (w := w.drew) hb hc1; have hc52 := pw_cell_below (w := w.drew) hb hc2; have hc53 := pw_cell_below (w := w.drew) hb hc3; clear hb)
    | (go_at_call 32; refine (agg_add g m s lv r w5 HA5.out.blk HA5.out.hi0 HA5.out.lo0 HA5.out.lo1).mono ?_; rintro e w6 ⟨rfl, hw⟩; have HW6 := Aside0.mk hw; have HT6 := Aside0.mk (show Turns w5 w6 (fun k => k = g) from by rw [hw]; exact ((Turns.refl w5 (fun k => k = g)).setCell (.inl rfl) _).setCell (.inl rfl) _); have hc60 := cell_kept hc50 HT6.out.kept (fun h => HN.out.1 h.symm); have hc61 := cell_kept hc51 HT6.out.kept (fun h => HN.out.2 h.symm); have hc62 := cell_kept hc52 HT6.out.kept (fun h => HN.out.2 h.symm); have hc63 := cell_kept hc53 HT6.out.kept (fun h => HN.out.2 h.symm); clear hw))
  go_end0
  have hb6 : w6.heap[g]? = some (.cells (accCells { s with hi := addHi s.hi s.lo r, lo := addLo s.lo r } lv m) 31 (0, 0)) := by
    rw [HW6.out]
    exact blk_put (blk_put HA5.out.blk 3 (.int .u64 (addHi s.hi s.lo r)) rfl) 4 (.int .u64 (addLo s.lo r)) rfl
  exact ⟨rfl, HA5.out.store HT6.out hb6 rfl rfl (by show 0 ≤ addHi _ _ _; unfold addHi; omega) (by show 0 ≤ addLo _ _; unfold addLo; omega) (by show addLo _ _ < _; unfold addLo; omega), (Turns.refl w (fun k => k = g)).drew.then_ (HT5.out.then_ HT6.out (fun k hk => .inl hk)) (fun k hk => .inl hk)⟩

set_option maxHeartbeats 8000000 in
set_option maxRecDepth 100000 in
theorem step_best0 (ba bv g m B : Nat) (P : Nat → Prop) (s : AccS) (lv : Value) (D : DataW Unit) (x : S24) (sg c sc : Int) (w : World) (h1 : w.heap[ba]? = some (.cells #[.pointer (some ⟨g, 0, none⟩)] 25 (0, 0))) (h2 : w.heap[bv]? = some (.cells (vcells x) 24 (0, 0))) (ha : IsAcc w B P g s lv m D) (hn : s.n = 0) :
    Calls Tryd.prog 29 #[.int .i64 sg, .pointer (some ⟨ba, 0, none⟩), .pointer (some ⟨bv, 0, none⟩)] w fun e w' => e = .returned (.tuple #[]) ∧ IsAcc w' B P g { s with best := x } lv m D ∧ Turns w w' (fun k => k = g) := by
  have HA := Aside0.mk ha
  have hne1 : ¬ g = ba := blk_ne ha.blk h1 (by decide)
  have hne2 : ¬ g = bv := blk_ne ha.blk h2 (by decide)
  have HN := Aside0.mk (And.intro hne1 hne2)
  have hc0 : w.cell? ⟨ba, 0, none⟩ = some (.pointer (some ⟨g, 0, none⟩)) := (blk_cell h1 0).trans rfl
  have hc1 : w.cell? ⟨bv, 0, none⟩ = some (.int .u8 x.f0) := (blk_cell h2 0).trans rfl
  have hc2 : w.cell? ⟨bv, 1, none⟩ = some (.int .i64 x.f1) := (blk_cell h2 1).trans rfl
  have hc3 : w.cell? ⟨bv, 2, none⟩ = some (.string x.f2) := (blk_cell h2 2).trans rfl
  have hc4 : w.cell? ⟨g, 2, none⟩ = some (.int .i64 0) := by rw [← hn]; exact (blk_cell ha.blk 2).trans rfl
  have hc5 : w.cell? ⟨g, 5, none⟩ = some (.int .u8 s.best.f0) := (blk_cell ha.blk 5).trans rfl
  have hc6 : w.cell? ⟨g, 6, none⟩ = some (.int .i64 s.best.f1) := (blk_cell ha.blk 6).trans rfl
  have hc7 : w.cell? ⟨g, 7, none⟩ = some (.string s.best.f2) := (blk_cell ha.blk 7).trans rfl
  have hu1 := Tryd.underlying24
  have hf5 := blk_frozen ha.blk 5
  have hf6 := blk_frozen ha.blk 6
  have hf7 := blk_frozen ha.blk 7
  have HC := Aside0.mk trivial
  clear h1 h2 ha hn
  go_enter Tryd.func29, Tryd.ntmps29
  go_wp2
  go_quiet (fail)
  go_wp2
  go_end0
  have T0 : Turns w (w.drewN nq) (fun k => k = g) := (Turns.refl w (fun k => k = g)).drewN nq
  have hb6 := blk_put (blk_put (blk_put (show (w.drewN nq).heap[g]? = _ from HA.out.blk) 5 (.int .u8 x.f0) rfl) 6 (.int .i64 x.f1) rfl) 7 (.string x.f2) (cs' := accCells { s with best := x } lv m) rfl
  exact ⟨rfl, (show IsAcc (w.drewN nq) B P g s lv m D from ⟨HA.out.blk, HA.out.pg, HA.out.row, HA.out.pm, HA.out.map, HA.out.seen, HA.out.hi0, HA.out.lo0, HA.out.lo1⟩).store (((Turns.refl (w.drewN nq) (fun k => k = g)).setCell (p := ⟨g, 5, none⟩) (.inl rfl) _).setCell (p := ⟨g, 6, none⟩) (.inl rfl) _ |>.setCell (p := ⟨g, 7, none⟩) (.inl rfl) _) hb6 rfl rfl HA.out.hi0 HA.out.lo0 HA.out.lo1, (T0.setCell (p := ⟨g, 5, none⟩) (.inl rfl) _).setCell (p := ⟨g, 6, none⟩) (.inl rfl) _ |>.setCell (p := ⟨g, 7, none⟩) (.inl rfl) _⟩

set_option maxHeartbeats 8000000 in
set_option maxRecDepth 100000 in
theorem step_bestT (ba bv g m B : Nat) (P : Nat → Prop) (s : AccS) (lv : Value) (D : DataW Unit) (x : S24) (sg c sc : Int) (w : World) (h1 : w.heap[ba]? = some (.cells #[.pointer (some ⟨g, 0, none⟩)] 25 (0, 0))) (h2 : w.heap[bv]? = some (.cells (vcells x) 24 (0, 0))) (ha : IsAcc w B P g s lv m D) (hn : s.n ≠ 0) (hc : cmpO x s.best = some c) (hw : IntKind.i64.wrap (sg * c) = sc) (hp : 0 < sc) :
    Calls Tryd.prog 29 #[.int .i64 sg, .pointer (some ⟨ba, 0, none⟩), .pointer (some ⟨bv, 0, none⟩)] w fun e w' => e = .returned (.tuple #[]) ∧ IsAcc w' B P g { s with best := x } lv m D ∧ Turns w w' (fun k => k = g) := by
  have HA := Aside0.mk ha
  have hne1 : ¬ g = ba := blk_ne ha.blk h1 (by decide)
  have hne2 : ¬ g = bv := blk_ne ha.blk h2 (by decide)
  have HN := Aside0.mk (And.intro hne1 hne2)
  have hc0 : w.cell? ⟨ba, 0, none⟩ = some (.pointer (some ⟨g, 0, none⟩)) := (blk_cell h1 0).trans rfl
  have hc1 : w.cell? ⟨bv, 0, none⟩ = some (.int .u8 x.f0) := (blk_cell h2 0).trans rfl
  have hc2 : w.cell? ⟨bv, 1, none⟩ = some (.int .i64 x.f1) := (blk_cell h2 1).trans rfl
  have hc3 : w.cell? ⟨bv, 2, none⟩ = some (.string x.f2) := (blk_cell h2 2).trans rfl
  have hc4 : w.cell? ⟨g, 2, none⟩ = some (.int .i64 s.n) := (blk_cell ha.blk 2).trans rfl
  have hc5 : w.cell? ⟨g, 5, none⟩ = some (.int .u8 s.best.f0) := (blk_cell ha.blk 5).trans rfl
  have hc6 : w.cell? ⟨g, 6, none⟩ = some (.int .i64 s.best.f1) := (blk_cell ha.blk 6).trans rfl
  have hc7 : w.cell? ⟨g, 7, none⟩ = some (.string s.best.f2) := (blk_cell ha.blk 7).trans rfl
  have hu1 := Tryd.underlying24
  have HC := Aside0.mk hc
  have hd : (s.n == 0) = false := by simpa using hn
  have hd' : decide (s.n = 0) = false := decide_eq_false hn
  have hp' : decide (0 < sc) = true := decide_eq_true hp
  clear h1 h2 ha hn hc hp
  go_enter Tryd.func29, Tryd.ntmps29
  go_wp2
  go_region_held3 (fun w' => w'.cell? ⟨ba, 0, none⟩ = some (.pointer (some ⟨g, 0, none⟩)) ∧ w'.cell? ⟨bv, 0, none⟩ = some (.int .u8 x.f0) ∧ w'.cell? ⟨bv, 1, none⟩ = some (.int .i64 x.f1) ∧ w'.cell? ⟨bv, 2, none⟩ = some (.string x.f2) ∧ w'.cell? ⟨g, 2, none⟩ = some (.int .i64 s.n) ∧ w'.cell? ⟨g, 5, none⟩ = some (.int .u8 s.best.f0) ∧ w'.cell? ⟨g, 6, none⟩ = some (.int .i64 s.best.f1) ∧ w'.cell? ⟨g, 7, none⟩ = some (.string s.best.f2)) (first | go_keep | trivial) (first
    | (go_at_call 30; refine (value_Compare.calls x.f0 x.f1 x.f2 s.best.f0 s.best.f1 s.best.f2 c _ HC.out).mono ?_; rintro e w5 ⟨rfl, hb⟩; have HT5 := Aside0.mk (Turns.of_below hb (fun k => k = g)); have HA5 := Aside0.mk ((show IsAcc w.drew B P g s lv m D from HA.out.below (Below.refl _ _).drew).below hb); have hc50 := pw_cell_below (w := w.drew) hb hc0; have hc51 := pw_cell_below (w := w.drew) hb hc1; have hc52 := pw_cell_below (w := w.drew) hb hc2; have hc53 := pw_cell_below (w := w.drew) hb hc3; have hc54 := pw_cell_below (w := w.drew) hb hc4; have hc55 := pw_cell_below (w := w.drew) hb hc5; have hc56 := pw_cell_below (w := w.drew) hb hc6; have hc57 := pw_cell_below (w := w.drew) hb hc7; have hf5 := blk_frozen HA5.out.blk 5; have hf6 := blk_frozen HA5.out.blk 6; have hf7 := blk_frozen HA5.out.blk 7; clear hb))
  go_wp2
  go_end0
  have T0 : Turns w w5 (fun k => k = g) := (Turns.refl w (fun k => k = g)).drew.then_ HT5.out (fun k hk => .inl hk)
  have hb6 := blk_put (blk_put (blk_put HA5.out.blk 5 (.int .u8 x.f0) rfl) 6 (.int .i64 x.f1) rfl) 7 (.string x.f2) (cs' := accCells { s with best := x } lv m) rfl
  exact ⟨rfl, HA5.out.store (((Turns.refl w5 (fun k => k = g)).setCell (p := ⟨g, 5, none⟩) (.inl rfl) _).setCell (p := ⟨g, 6, none⟩) (.inl rfl) _ |>.setCell (p := ⟨g, 7, none⟩) (.inl rfl) _) hb6 rfl rfl HA.out.hi0 HA.out.lo0 HA.out.lo1, (T0.setCell (p := ⟨g, 5, none⟩) (.inl rfl) _).setCell (p := ⟨g, 6, none⟩) (.inl rfl) _ |>.setCell (p := ⟨g, 7, none⟩) (.inl rfl) _⟩

set_option maxHeartbeats 8000000 in
set_option maxRecDepth 100000 in
theorem step_bestF (ba bv g m B : Nat) (P : Nat → Prop) (s : AccS) (lv : Value) (D : DataW Unit) (x : S24) (sg c sc : Int) (w : World) (h1 : w.heap[ba]? = some (.cells #[.pointer (some ⟨g, 0, none⟩)] 25 (0, 0))) (h2 : w.heap[bv]? = some (.cells (vcells x) 24 (0, 0))) (ha : IsAcc w B P g s lv m D) (hn : s.n ≠ 0) (hc : cmpO x s.best = some c) (hw : IntKind.i64.wrap (sg * c) = sc) (hp : ¬ 0 < sc) :
    Calls Tryd.prog 29 #[.int .i64 sg, .pointer (some ⟨ba, 0, none⟩), .pointer (some ⟨bv, 0, none⟩)] w fun e w' => e = .returned (.tuple #[]) ∧ IsAcc w' B P g s lv m D ∧ Turns w w' (fun k => k = g) := by
  have HA := Aside0.mk ha
  have hne1 : ¬ g = ba := blk_ne ha.blk h1 (by decide)
  have hne2 : ¬ g = bv := blk_ne ha.blk h2 (by decide)
  have HN := Aside0.mk (And.intro hne1 hne2)
  have hc0 : w.cell? ⟨ba, 0, none⟩ = some (.pointer (some ⟨g, 0, none⟩)) := (blk_cell h1 0).trans rfl
  have hc1 : w.cell? ⟨bv, 0, none⟩ = some (.int .u8 x.f0) := (blk_cell h2 0).trans rfl
  have hc2 : w.cell? ⟨bv, 1, none⟩ = some (.int .i64 x.f1) := (blk_cell h2 1).trans rfl
  have hc3 : w.cell? ⟨bv, 2, none⟩ = some (.string x.f2) := (blk_cell h2 2).trans rfl
  have hc4 : w.cell? ⟨g, 2, none⟩ = some (.int .i64 s.n) := (blk_cell ha.blk 2).trans rfl
  have hc5 : w.cell? ⟨g, 5, none⟩ = some (.int .u8 s.best.f0) := (blk_cell ha.blk 5).trans rfl
  have hc6 : w.cell? ⟨g, 6, none⟩ = some (.int .i64 s.best.f1) := (blk_cell ha.blk 6).trans rfl
  have hc7 : w.cell? ⟨g, 7, none⟩ = some (.string s.best.f2) := (blk_cell ha.blk 7).trans rfl
  have hu1 := Tryd.underlying24
  have HC := Aside0.mk hc
  have hd : (s.n == 0) = false := by simpa using hn
  have hd' : decide (s.n = 0) = false := decide_eq_false hn
  have hp' : decide (0 < sc) = false := decide_eq_false hp
  clear h1 h2 ha hn hc hp
  go_enter Tryd.func29, Tryd.ntmps29
  go_wp2
  go_region_held3 (fun w' => w'.cell? ⟨ba, 0, none⟩ = some (.pointer (some ⟨g, 0, none⟩)) ∧ w'.cell? ⟨bv, 0, none⟩ = some (.int .u8 x.f0) ∧ w'.cell? ⟨bv, 1, none⟩ = some (.int .i64 x.f1) ∧ w'.cell? ⟨bv, 2, none⟩ = some (.string x.f2) ∧ w'.cell? ⟨g, 2, none⟩ = some (.int .i64 s.n) ∧ w'.cell? ⟨g, 5, none⟩ = some (.int .u8 s.best.f0) ∧ w'.cell? ⟨g, 6, none⟩ = some (.int .i64 s.best.f1) ∧ w'.cell? ⟨g, 7, none⟩ = some (.string s.best.f2)) (first | go_keep | trivial) (first
    | (go_at_call 30; refine (value_Compare.calls x.f0 x.f1 x.f2 s.best.f0 s.best.f1 s.best.f2 c _ HC.out).mono ?_; rintro e w5 ⟨rfl, hb⟩; have HT5 := Aside0.mk (Turns.of_below hb (fun k => k = g)); have HA5 := Aside0.mk ((show IsAcc w.drew B P g s lv m D from HA.out.below (Below.refl _ _).drew).below hb); have hc50 := pw_cell_below (w := w.drew) hb hc0; have hc51 := pw_cell_below (w := w.drew) hb hc1; have hc52 := pw_cell_below (w := w.drew) hb hc2; have hc53 := pw_cell_below (w := w.drew) hb hc3; have hc54 := pw_cell_below (w := w.drew) hb hc4; have hc55 := pw_cell_below (w := w.drew) hb hc5; have hc56 := pw_cell_below (w := w.drew) hb hc6; have hc57 := pw_cell_below (w := w.drew) hb hc7; have hf5 := blk_frozen HA5.out.blk 5; have hf6 := blk_frozen HA5.out.blk 6; have hf7 := blk_frozen HA5.out.blk 7; clear hb))
  go_wp2
  go_end0
  exact ⟨rfl, HA5.out, (Turns.refl w (fun k => k = g)).drew.then_ HT5.out (fun k hk => .inl hk)⟩
end Go.Proofs.YtjankdoaobklgaaDoor.Q
end
section
namespace Go.Proofs.YtjankdoaobklgaaDoor.Q
open Go.RowKit Go.Proofs.YtjankdoaobklgaaDoorW.PrintWords Go.Proofs.YtjankdoaobklgaaDoorW.PrintLast Go.Proofs.YtjankdoaobklgaaDoorW.PrintMore

set_option maxHeartbeats 8000000 in
set_option maxRecDepth 100000 in
theorem step_concat (ba bv g m B : Nat) (P : Nat → Prop) (s : AccS) (lv : Value) (D : DataW Unit) (x : S24) (w : World) (h1 : w.heap[ba]? = some (.cells #[.pointer (some ⟨g, 0, none⟩)] 25 (0, 0))) (h2 : w.heap[bv]? = some (.cells (vcells x) 24 (0, 0))) (hne : some bv ≠ lv.ownBlock) (ha : IsAcc w B P g s lv m D) (hP : ∀ k, w.heap.size ≤ k → P k) (hB : B ≤ w.heap.size) (hl : s.l.length + 1 ≤ 4000000000000) :
    Calls Tryd.prog 36 #[.pointer (some ⟨ba, 0, none⟩), .pointer (some ⟨bv, 0, none⟩)] w fun e w' => ∃ lv', e = .returned (.tuple #[]) ∧ IsAcc w' B P g { s with l := s.l ++ [x] } lv' m D ∧ Turns w w' P := by
  have HA := Aside0.mk ha
  have H1 := Aside0.mk h1
  have H2 := Aside0.mk h2
  have HE := Aside0.mk hne
  have HP := Aside0.mk hP
  have HL := Aside0.mk hl
  have HS := Aside0.mk hB
  have hne1 : ¬ g = ba := blk_ne ha.blk h1 (by decide)
  have hne2 : ¬ g = bv := blk_ne ha.blk h2 (by decide)
  have HN := Aside0.mk (And.intro hne1 hne2)
  obtain ⟨A0, c0, hlv⟩ := Kd.R_slice ha.row
  subst hlv
  have hc0 : w.cell? ⟨ba, 0, none⟩ = some (.pointer (some ⟨g, 0, none⟩)) := (blk_cell h1 0).trans rfl
  have hc1 : w.cell? ⟨bv, 0, none⟩ = some (.int .u8 x.f0) := (blk_cell h2 0).trans rfl
  have hc2 : w.cell? ⟨bv, 1, none⟩ = some (.int .i64 x.f1) := (blk_cell h2 1).trans rfl
  have hc3 : w.cell? ⟨bv, 2, none⟩ = some (.string x.f2) := (blk_cell h2 2).trans rfl
  have hc4 : w.cell? ⟨g, 8, none⟩ = some (.slice A0 s.l.length c0) := (blk_cell ha.blk 8).trans rfl
  have hu1 := Tryd.underlying24
  obtain ⟨N, hN⟩ : ∃ N, N = s.l ++ [x] := ⟨_, rfl⟩
  have N1 := Aside0.mk hN
  clear h1 h2 ha hN hP hl hne hB
  go_enter Tryd.func36, Tryd.ntmps36
  have hd4 : ∀ o : Obj, (w.alloc o).cell? ⟨g, 8, none⟩ = some (.slice A0 s.l.length c0) := fun o => (blk_cell (blk_alloc HA.out.blk o) 8).trans rfl
  have hd0 : ∀ o : Obj, (w.alloc o).cell? ⟨ba, 0, none⟩ = some (.pointer (some ⟨g, 0, none⟩)) := fun o => (blk_cell (blk_alloc H1.out o) 0).trans rfl
  have hd1 : ∀ o : Obj, (w.alloc o).cell? ⟨bv, 0, none⟩ = some (.int .u8 x.f0) := fun o => (blk_cell (blk_alloc H2.out o) 0).trans rfl
  have hd2 : ∀ o : Obj, (w.alloc o).cell? ⟨bv, 1, none⟩ = some (.int .i64 x.f1) := fun o => (blk_cell (blk_alloc H2.out o) 1).trans rfl
  have hd3 : ∀ o : Obj, (w.alloc o).cell? ⟨bv, 2, none⟩ = some (.string x.f2) := fun o => (blk_cell (blk_alloc H2.out o) 2).trans rfl
  go_region_law (first
    | (refine Kd.R_append_step k24 (w0 := w.drew) (W := w.drew) B ?cW (.tmp 6) (.tmp 8) 28 24 (.agg #[(.int .u8 0), (.int .i64 0), (.string ⟨#[]⟩)]) 32 rfl Tryd.underlying28 info24 rfl (by decide) (by omega) (.slice A0 s.l.length c0) s.l x [.int .u8 x.f0, .int .i64 x.f1, .string x.f2] P (fun _ => False) ?cS ?cX ?aP (fun _ hk => hk.elim) ?aF ?aO ?aB ?aS ?aL ?_; (case cW => rfl); (case cS => rfl); (case cX => rfl); (case aP => exact k24_mkM _ _ _ x); (case aB => exact (Below.refl _ _)); (case aF => exact HP.out); (case aO => exact HA.out.row); (case aS => exact HS.out); (case aL => have := HL.out; omega); intro v4 w4 ho hb hg hat; rw [← N1.out] at ho; have hc40 : w4.cell? ⟨ba, 0, none⟩ = some (.pointer (some ⟨g, 0, none⟩)) := (blk_cell (blk_grown (w := w.drew) H1.out hg (Kd.R_ne HA.out.row H1.out (by decide))) 0).trans rfl; have hb42 := blk_grown (w := w.drew) H2.out hg HE.out; have hc41 : w4.cell? ⟨bv, 0, none⟩ = some (.int .u8 x.f0) := (blk_cell hb42 0).trans rfl; have hc42 : w4.cell? ⟨bv, 1, none⟩ = some (.int .i64 x.f1) := (blk_cell hb42 1).trans rfl; have hc43 : w4.cell? ⟨bv, 2, none⟩ = some (.string x.f2) := (blk_cell hb42 2).trans rfl; have HG4 := Aside0.mk (blk_grown (w := w.drew) HA.out.blk hg (Kd.R_ne HA.out.row HA.out.blk (by decide))); have hf4 := blk_frozen HG4.out 8; have hc48 : w4.cell? ⟨g, 8, none⟩ = some (.slice A0 s.l.length c0) := (blk_cell HG4.out 8).trans rfl; obtain ⟨A4, c4, e4⟩ := Kd.R_slice ho; subst e4; have HO4 := Aside0.mk ho; have HT4 := Aside0.mk hg; have HM4 := Aside0.mk hat; clear ho hb hg hat hb42))
  all_goals go_end0
  all_goals
    have hrm := row_map_ne HA.out.map HA.out.row
    have hgm := own_map_ne HA.out.map HA.out.blk
    have hK := ((Turns.refl w4 (fun k => k = g)).setCell (p := ⟨g, 8, none⟩) (.inl rfl) (.slice A4 N.length c4))
    have hO6 := Kd.R_mono (ok' := P) (Kd.R_kept (Kd.R_types HO4.out HG4.out v_ne31) hK.kept (fun k hk => hk.2)) (fun k hk => hk.1)
    have hm4 : w4.heap[m]? = w.heap[m]? := HT4.out.block m HA.out.map.lt (fun e => (hrm.1 m e.symm).2 rfl)
    rw [N1.out] at hO6
    refine ⟨_, rfl, ⟨blk_put HG4.out 8 (.slice A4 N.length c4) (cs' := accCells { s with l := s.l ++ [x] } (.slice A4 N.length c4) m) rfl, HA.out.pg, ?_, HA.out.pm, map_move HA.out.map ((hK.kept.2 m (World.ownsMap.lt (map_move HA.out.map hm4)) hgm).trans hm4), HA.out.seen, HA.out.hi0, HA.out.lo0, HA.out.lo1⟩, ((Turns.refl w P).drew.of_grown HT4.out (fun k e => .inl (HA.out.row.1 k e))).setCell (p := ⟨g, 8, none⟩) (.inl HA.out.pg) _⟩
    rw [N1.out]
    exact hO6

/-- the least, the greatest one -/
def bestS (sg : Int) (s : AccS) (x : S24) : Option AccS :=
  if s.n = 0 then some { s with best := x } else (cmpO x s.best).bind fun c => if 0 < IntKind.i64.wrap (sg * c) then some { s with best := x } else some s

theorem step_best (ba bv g m B : Nat) (P : Nat → Prop) (s s' : AccS) (lv : Value) (D : DataW Unit) (x : S24) (sg : Int) (w : World) (h1 : w.heap[ba]? = some (.cells #[.pointer (some ⟨g, 0, none⟩)] 25 (0, 0))) (h2 : w.heap[bv]? = some (.cells (vcells x) 24 (0, 0))) (ha : IsAcc w B P g s lv m D) (hs : bestS sg s x = some s') :
    Calls Tryd.prog 29 #[.int .i64 sg, .pointer (some ⟨ba, 0, none⟩), .pointer (some ⟨bv, 0, none⟩)] w fun e w' => e = .returned (.tuple #[]) ∧ IsAcc w' B P g s' lv m D ∧ Turns w w' (fun k => k = g) := by
  unfold bestS at hs
  by_cases hn : s.n = 0
  · rw [if_pos hn] at hs
    obtain rfl := Option.some.inj hs
    exact step_best0 ba bv g m B P s lv D x sg 0 0 w h1 h2 ha hn
  · rw [if_neg hn] at hs
    cases hc : cmpO x s.best with
    | none => rw [hc] at hs; cases hs
    | some c =>
      rw [hc, Option.bind_some] at hs
      by_cases hp : 0 < IntKind.i64.wrap (sg * c)
      · rw [if_pos hp] at hs
        obtain rfl := Option.some.inj hs
        exact step_bestT ba bv g m B P s lv D x sg c _ w h1 h2 ha hn hc rfl hp
      · rw [if_neg hp] at hs
        obtain rfl := Option.some.inj hs
        exact step_bestF ba bv g m B P s lv D x sg c _ w h1 h2 ha hn hc rfl hp

set_option maxHeartbeats 8000000 in
set_option maxRecDepth 100000 in
theorem step_min (bf ba bv g m B : Nat) (P : Nat → Prop) (s s' : AccS) (lv : Value) (D : DataW Unit) (x : S24) (w : World) (h0 : w.heap[bf]? = some (.cells #[.func (.func 29) #[] #[.pointer (some ⟨ba, 0, none⟩), .pointer (some ⟨bv, 0, none⟩)]] 62 (0, 0))) (h1 : w.heap[ba]? = some (.cells #[.pointer (some ⟨g, 0, none⟩)] 25 (0, 0))) (h2 : w.heap[bv]? = some (.cells (vcells x) 24 (0, 0))) (ha : IsAcc w B P g s lv m D) (hs : bestS (-1) s x = some s') :
    Calls Tryd.prog 34 #[.pointer (some ⟨bf, 0, none⟩)] w fun e w' => e = .returned (.tuple #[]) ∧ IsAcc w' B P g s' lv m D ∧ Turns w w' (fun k => k = g) := by
  have H0 := Aside0.mk h0
  have H1 := Aside0.mk h1
  have H2 := Aside0.mk h2
  have HA := Aside0.mk ha
  have HS := Aside0.mk hs
  have hc0 : w.cell? ⟨bf, 0, none⟩ = some (.func (.func 29) #[] #[.pointer (some ⟨ba, 0, none⟩), .pointer (some ⟨bv, 0, none⟩)]) := (blk_cell h0 0).trans rfl
  clear h0 h1 h2 ha hs
  go_enter Tryd.func34, Tryd.ntmps34
  go_wp2_with fail
  refine (step_best ba bv g m B P s s' lv D x (-1) _ H1.out H2.out HA.out HS.out).mono ?_
  rintro e w5 ⟨rfl, hA, hT⟩
  go_wp2
  go_end0
  exact ⟨rfl, hA, hT⟩

set_option maxHeartbeats 8000000 in
set_option maxRecDepth 100000 in
theorem step_max (bf ba bv g m B : Nat) (P : Nat → Prop) (s s' : AccS) (lv : Value) (D : DataW Unit) (x : S24) (w : World) (h0 : w.heap[bf]? = some (.cells #[.func (.func 29) #[] #[.pointer (some ⟨ba, 0, none⟩), .pointer (some ⟨bv, 0, none⟩)]] 62 (0, 0))) (h1 : w.heap[ba]? = some (.cells #[.pointer (some ⟨g, 0, none⟩)] 25 (0, 0))) (h2 : w.heap[bv]? = some (.cells (vcells x) 24 (0, 0))) (ha : IsAcc w B P g s lv m D) (hs : bestS 1 s x = some s') :
    Calls Tryd.prog 35 #[.pointer (some ⟨bf, 0, none⟩)] w fun e w' => e = .returned (.tuple #[]) ∧ IsAcc w' B P g s' lv m D ∧ Turns w w' (fun k => k = g) := by
  have H0 := Aside0.mk h0
  have H1 := Aside0.mk h1
  have H2 := Aside0.mk h2
  have HA := Aside0.mk ha
  have HS := Aside0.mk hs
  have hc0 : w.cell? ⟨bf, 0, none⟩ = some (.func (.func 29) #[] #[.pointer (some ⟨ba, 0, none⟩), .pointer (some ⟨bv, 0, none⟩)]) := (blk_cell h0 0).trans rfl
  clear h0 h1 h2 ha hs
  go_enter Tryd.func35, Tryd.ntmps35
  go_wp2_with fail
  refine (step_best ba bv g m B P s s' lv D x 1 _ H1.out H2.out HA.out HS.out).mono ?_
  rintro e w5 ⟨rfl, hA, hT⟩
  go_wp2
  go_end0
  exact ⟨rfl, hA, hT⟩
end Go.Proofs.YtjankdoaobklgaaDoor.Q
end
section
namespace Go.Proofs.YtjankdoaobklgaaDoor.Q
open Go.RowKit Go.Proofs.YtjankdoaobklgaaDoorW.PrintWords Go.Proofs.YtjankdoaobklgaaDoorW.PrintLast Go.Proofs.YtjankdoaobklgaaDoorW.PrintMore
open Go.Maps (Keyed)

def nmCount : ByteArray := ⟨#[99, 111, 117, 110, 116]⟩
def nmStar : ByteArray := ⟨#[99, 111, 117, 110, 116, 42]⟩
def nmSum : ByteArray := ⟨#[115, 117, 109]⟩
def nmTotal : ByteArray := ⟨#[116, 111, 116, 97, 108]⟩
def nmMin : ByteArray := ⟨#[109, 105, 110]⟩
def nmMax : ByteArray := ⟨#[109, 97, 120]⟩
def nmConcat : ByteArray := ⟨#[103, 114, 111, 117, 112, 95, 99, 111, 110, 99, 97, 116]⟩

/-- what Step does, by name -/
def doOf (nm : ByteArray) (F1 F2 F3 F4 F5 : Value) : Value :=
  if nm = nmSum then F1 else if nm = nmTotal then F2 else if nm = nmMin then F3 else if nm = nmMax then F4 else if nm = nmConcat then F5 else .nilFunc

/-- a function, read whole -/
noncomputable def fnR (v : Value) : Option (DataW Value × List MemPlace) := some (.held v, [])
noncomputable def fiveD (F1 F2 F3 F4 F5 : Value) : DataW Value :=
  (((((DataW.map []).put (.string nmSum.data.toList) (.held F1)).put (.string nmTotal.data.toList) (.held F2)).put (.string nmMin.data.toList) (.held F3)).put (.string nmMax.data.toList) (.held F4)).put (.string nmConcat.data.toList) (.held F5)

theorem key_eq {a b : ByteArray} : Lit.string a.data.toList = Lit.string b.data.toList ↔ a = b := by
  constructor
  · intro h
    injection h with h
    cases a; cases b
    congr 1
    exact Array.ext' h
  · rintro rfl; rfl

theorem five_at (F1 F2 F3 F4 F5 : Value) (nm : ByteArray) : (fiveD F1 F2 F3 F4 F5).atKey (.string nm.data.toList) (.held .nilFunc) = .held (doOf nm F1 F2 F3 F4 F5) := by
  have m0 : Maps.IsMap (DataW.map (H := Value) []) := ⟨[], rfl⟩
  have m1 := m0.put (.string nmSum.data.toList) (.held F1)
  have m2 := m1.put (.string nmTotal.data.toList) (.held F2)
  have m3 := m2.put (.string nmMin.data.toList) (.held F3)
  have m4 := m3.put (.string nmMax.data.toList) (.held F4)
  unfold fiveD doOf
  by_cases h5 : nm = nmConcat
  · subst h5
    rw [Maps.atKey_put_same (k := .string nmConcat.data.toList) m4 trivial]
    rw [if_neg (by decide), if_neg (by decide), if_neg (by decide), if_neg (by decide), if_pos rfl]
  rw [Maps.atKey_put_other (fun e => h5 (key_eq.1 e))]
  by_cases h4 : nm = nmMax
  · subst h4
    rw [Maps.atKey_put_same (k := .string nmMax.data.toList) m3 trivial]
    rw [if_neg (by decide), if_neg (by decide), if_neg (by decide), if_pos rfl]
  rw [Maps.atKey_put_other (fun e => h4 (key_eq.1 e))]
  by_cases h3 : nm = nmMin
  · subst h3
    rw [Maps.atKey_put_same (k := .string nmMin.data.toList) m2 trivial]
    rw [if_neg (by decide), if_neg (by decide), if_pos rfl]
  rw [Maps.atKey_put_other (fun e => h3 (key_eq.1 e))]
  by_cases h2 : nm = nmTotal
  · subst h2
    rw [Maps.atKey_put_same (k := .string nmTotal.data.toList) m1 trivial]
    rw [if_neg (by decide), if_pos rfl]
  rw [Maps.atKey_put_other (fun e => h2 (key_eq.1 e))]
  by_cases h1 : nm = nmSum
  · subst h1
    rw [Maps.atKey_put_same (k := .string nmSum.data.toList) m0 trivial]
    rw [if_pos rfl]
  rw [Maps.atKey_put_other (fun e => h1 (key_eq.1 e))]
  rw [if_neg h1, if_neg h2, if_neg h3, if_neg h4, if_neg h5]
  rfl

set_option maxRecDepth 100000 in
theorem five_run (w : World) (F1 F2 F3 F4 F5 : Value) : ∃ u1 u2 u3 u4 u5,
    (Instr.mapUpdate 64 (.map (some w.heap.size)) (.string ⟨#[115, 117, 109]⟩) F1).run Tryd.prog (w.alloc (.map #[] 0)) = .ok () u1 ∧
    (Instr.mapUpdate 64 (.map (some w.heap.size)) (.string ⟨#[116, 111, 116, 97, 108]⟩) F2).run Tryd.prog u1 = .ok () u2 ∧
    (Instr.mapUpdate 64 (.map (some w.heap.size)) (.string ⟨#[109, 105, 110]⟩) F3).run Tryd.prog u2 = .ok () u3 ∧
    (Instr.mapUpdate 64 (.map (some w.heap.size)) (.string ⟨#[109, 97, 120]⟩) F4).run Tryd.prog u3 = .ok () u4 ∧
    (Instr.mapUpdate 64 (.map (some w.heap.size)) (.string ⟨#[103, 114, 111, 117, 112, 95, 99, 111, 110, 99, 97, 116]⟩) F5).run Tryd.prog u4 = .ok () u5 ∧
    Below w.heap.size w u5 ∧
    ∀ nm : ByteArray, nm.size ≤ maxLen → (Instr.lookup 64 (.map (some w.heap.size)) (.string nm) false).run Tryd.prog u5 = .ok (doOf nm F1 F2 F3 F4 F5) u5 := by
  have hk : ∀ nm : ByteArray, nm.size ≤ maxLen → keyOf Tryd.prog 9 (.string nm) = some (.string nm.data.toList) := fun nm h => WideMaps.keyOf_string_mk Tryd.underlying9 h
  have h0 := World.ownsMap_made w Tryd.prog 9 fnR
  obtain ⟨u1, r1, o1, g1⟩ := h0.update string_k Tryd.underlying64 (by decide) (hk nmSum (by decide)) (val := F1) (d := .held F1) (ps := []) rfl
  obtain ⟨u2, r2, o2, g2⟩ := o1.update string_k Tryd.underlying64 (by decide) (hk nmTotal (by decide)) (val := F2) (d := .held F2) (ps := []) rfl
  obtain ⟨u3, r3, o3, g3⟩ := o2.update string_k Tryd.underlying64 (by decide) (hk nmMin (by decide)) (val := F3) (d := .held F3) (ps := []) rfl
  obtain ⟨u4, r4, o4, g4⟩ := o3.update string_k Tryd.underlying64 (by decide) (hk nmMax (by decide)) (val := F4) (d := .held F4) (ps := []) rfl
  obtain ⟨u5, r5, o5, g5⟩ := o4.update string_k Tryd.underlying64 (by decide) (hk nmConcat (by decide)) (val := F5) (d := .held F5) (ps := []) rfl
  refine ⟨u1, u2, u3, u4, u5, r1, r2, r3, r4, r5, ?_, ?_⟩
  · have T := ((((((Turns.refl w (fun _ => False)).alloc (.map #[] 0)).of_grown g1 (fun k e => .inr ?_)).of_grown g2 (fun k e => .inr ?_)).of_grown g3 (fun k e => .inr ?_)).of_grown g4 (fun k e => .inr ?_)).of_grown g5 (fun k e => .inr ?_)
    · exact T.toBelow (Nat.le_refl _) (fun _ h => h.elim)
    all_goals (injection e with e; omega)
  · intro nm hnm
    obtain ⟨v, ps, hrun, hv⟩ := o5.lookup string_k Tryd.underlying64 (z := .nilFunc) (by kernel_rfl) (zd := .held .nilFunc) (zp := []) rfl (hk nm hnm)
    have e : v = doOf nm F1 F2 F3 F4 F5 := by
      have h5 := five_at F1 F2 F3 F4 F5 nm
      unfold fiveD at h5
      rw [h5] at hv
      injection hv with hv
      injection hv with hv _
      injection hv
    rw [← e]
    exact hrun
end Go.Proofs.YtjankdoaobklgaaDoor.Q
end
section
namespace Go.Proofs.YtjankdoaobklgaaDoor.Q
open Go.RowKit Go.Proofs.YtjankdoaobklgaaDoorW.PrintWords Go.Proofs.YtjankdoaobklgaaDoorW.PrintLast Go.Proofs.YtjankdoaobklgaaDoorW.PrintMore

/-- what Step does to what counts -/
def bodyS (s : AccS) (x : S24) : Option AccS :=
  if s.name = nmSum then (intO x).map fun r => { s with hi := addHi s.hi s.lo r, lo := addLo s.lo r }
  else if s.name = nmTotal then (intO x).map fun r => { s with hi := addHi s.hi s.lo r, lo := addLo s.lo r }
  else if s.name = nmMin then bestS (-1) s x else if s.name = nmMax then bestS 1 s x
  else if s.name = nmConcat then some { s with l := s.l ++ [x] } else some s

theorem doSum {nm : ByteArray} (h : nm = nmSum) (a b c d e : Value) : doOf nm a b c d e = a := by subst h; rfl
theorem doTotal {nm : ByteArray} (h : nm = nmTotal) (a b c d e : Value) : doOf nm a b c d e = b := by subst h; rfl
theorem doMin {nm : ByteArray} (h : nm = nmMin) (a b c d e : Value) : doOf nm a b c d e = c := by subst h; rfl
theorem doMax {nm : ByteArray} (h : nm = nmMax) (a b c d e : Value) : doOf nm a b c d e = d := by subst h; rfl
theorem doConcat {nm : ByteArray} (h : nm = nmConcat) (a b c d e : Value) : doOf nm a b c d e = e := by subst h; rfl
theorem doNone {nm : ByteArray} (h1 : nm ≠ nmSum) (h2 : nm ≠ nmTotal) (h3 : nm ≠ nmMin) (h4 : nm ≠ nmMax) (h5 : nm ≠ nmConcat) (a b c d e : Value) : doOf nm a b c d e = .nilFunc := by unfold doOf; rw [if_neg h1, if_neg h2, if_neg h3, if_neg h4, if_neg h5]
theorem bodySum {s : AccS} {x : S24} (h : s.name = nmSum) : bodyS s x = (intO x).map fun r => { s with hi := addHi s.hi s.lo r, lo := addLo s.lo r } := by unfold bodyS; rw [h]; rw [ if_pos rfl]
theorem bodyTotal {s : AccS} {x : S24} (h : s.name = nmTotal) : bodyS s x = (intO x).map fun r => { s with hi := addHi s.hi s.lo r, lo := addLo s.lo r } := by unfold bodyS; rw [h]; rw [if_neg (show nmTotal ≠ nmSum by decide), if_pos rfl]
theorem bodyMin {s : AccS} {x : S24} (h : s.name = nmMin) : bodyS s x = bestS (-1) s x := by unfold bodyS; rw [h]; rw [if_neg (show nmMin ≠ nmSum by decide), if_neg (show nmMin ≠ nmTotal by decide), if_pos rfl]
theorem bodyMax {s : AccS} {x : S24} (h : s.name = nmMax) : bodyS s x = bestS 1 s x := by unfold bodyS; rw [h]; rw [if_neg (show nmMax ≠ nmSum by decide), if_neg (show nmMax ≠ nmTotal by decide), if_neg (show nmMax ≠ nmMin by decide), if_pos rfl]
theorem bodyConcat {s : AccS} {x : S24} (h : s.name = nmConcat) : bodyS s x = some { s with l := s.l ++ [x] } := by unfold bodyS; rw [h]; rw [if_neg (show nmConcat ≠ nmSum by decide), if_neg (show nmConcat ≠ nmTotal by decide), if_neg (show nmConcat ≠ nmMin by decide), if_neg (show nmConcat ≠ nmMax by decide), if_pos rfl]
theorem bodyNone {s : AccS} {x : S24} (h1 : s.name ≠ nmSum) (h2 : s.name ≠ nmTotal) (h3 : s.name ≠ nmMin) (h4 : s.name ≠ nmMax) (h5 : s.name ≠ nmConcat) : bodyS s x = some s := by unfold bodyS; rw [if_neg h1, if_neg h2, if_neg h3, if_neg h4, if_neg h5]

theorem neq_func (f : Fn) (x y : Array Value) (w : World) : (binOp BinOp.neq 1 (.func f x y) .nilFunc).run Tryd.prog w = .ok (.bool true) w := by kernel_rfl
theorem neq_none (w : World) : (binOp BinOp.neq 1 .nilFunc .nilFunc).run Tryd.prog w = .ok (.bool false) w := by kernel_rfl

theorem cntS_l (s : AccS) (x : S24) : (cntS s x).l = s.l := by
  unfold cntS
  split
  · rfl
  · split
    · rfl
    · split <;> rfl

theorem cntS_name (s : AccS) (x : S24) : (cntS s x).name = s.name := by
  unfold cntS
  split
  · rfl
  · split
    · rfl
    · split <;> rfl

set_option maxHeartbeats 8000000 in
set_option maxRecDepth 100000 in
theorem agg_step_go (g m B : Nat) (P : Nat → Prop) (s : AccS) (lv : Value) (D : DataW Unit) (x : S24) (w : World) (ha : IsAcc w B P g s lv m D) (hn : (s.name.toList == []) = false) (hx : rightV x = true) (hc : cntB s x = true) (hl : s.seen.length < 9223372036854775807) (hP : ∀ k, w.heap.size ≤ k → P k) (hB : B ≤ w.heap.size) (hz : s.name.size ≤ 100) (hll : s.l.length + 1 ≤ 4000000000000) (s2 : AccS) (hs2 : bodyS (cntS s x) x = some s2) :
    Calls Tryd.prog 11 #[.pointer (some ⟨g, 0, none⟩), .agg (vcells x)] w fun e w' => ∃ lv' D', e = .returned (.int .i64 0) ∧ IsAcc w' B P g { s2 with n := wrap64 (s2.n + 1) } lv' m D' ∧ Turns w w' P := by
  have HZ := Aside0.mk hz
  have HLL := Aside0.mk hll
  have HS2 := Aside0.mk hs2
  clear hz hll hs2
  have hcz0 : w.cell? ⟨g, 0, none⟩ = some (.string s.name) := (blk_cell ha.blk 0).trans rfl
  have HA := Aside0.mk ha
  have HX := Aside0.mk hx
  have HL := Aside0.mk hl
  have HC := Aside0.mk hc
  have HP := Aside0.mk hP
  have HS := Aside0.mk hB
  have HF := Aside0.mk (rightV_f x)
  clear ha hx hl hc hP hB
  have hu1 := Tryd.underlying24
  go_enter Tryd.func11, Tryd.ntmps11
  go_wp2_with (first
    | ((with_reducible refine gate_dst (N := 2) rfl ?_); refine box_event ?hg (N := 2) ?hd (cs := #[.pointer (some ⟨g, 0, none⟩)]) (t := 25) ?hr ?_; (case hd => rfl); (case hg => rfl); (case hr => first | (go_simp; done) | (go_simp; rfl)); intro g2 hg w2 hbox hb; have HX2 := Aside0.mk hbox; have HB2 := Aside0.mk hb; have HG2 := Aside0.mk hg; have hc20 : w2.cell? ⟨g2, 0, none⟩ = some (.pointer (some ⟨g, 0, none⟩)) := (blk_cell hbox 0).trans rfl; have hc29 : w2.cell? ⟨g, 0, none⟩ = some (.string s.name) := pw_cell_below hb hcz0; clear hg hbox hb)
    | ((with_reducible refine gate_dst (N := 3) rfl ?_); refine box_event ?hg (N := 3) ?hd (cs := vcells x) (t := 24) ?hr ?_; (case hd => rfl); (case hg => rfl); (case hr => first | (go_simp; done) | (go_simp; rfl)); intro g3 hg w3 hbox hb; have HX3 := Aside0.mk hbox; have HB3 := Aside0.mk (below_step HB2.out hb); have HY3 := Aside0.mk (blk_below HX2.out hb); have HG3 := Aside0.mk (show w.heap.size ≤ g3 by rw [hg]; exact HB2.out.size); have hc30 : w3.cell? ⟨g3, 0, none⟩ = some (.int .u8 x.f0) := (blk_cell hbox 0).trans rfl; have hc31 : w3.cell? ⟨g3, 1, none⟩ = some (.int .i64 x.f1) := (blk_cell hbox 1).trans rfl; have hc32 : w3.cell? ⟨g3, 2, none⟩ = some (.string x.f2) := (blk_cell hbox 2).trans rfl; have hc33 : w3.cell? ⟨g2, 0, none⟩ = some (.pointer (some ⟨g, 0, none⟩)) := pw_cell_below hb hc20; have hc34 : w3.cell? ⟨g, 0, none⟩ = some (.string s.name) := pw_cell_below hb hc29; clear hg hbox hb))
  refine (value_Right.calls x.f0 x.f1 x.f2 (rightV x) _ HF.out).mono ?_
  rintro e w5 ⟨rfl, hb⟩
  rw [HX.out]
  have HB5 := Aside0.mk (below_step HB3.out hb)
  have HA5 := Aside0.mk (HA.out.below HB5.out)
  have HX5 := Aside0.mk (blk_below HX3.out hb)
  have HY5 := Aside0.mk (blk_below HY3.out hb)
  have hc50 := pw_cell_below hb hc30
  have hc51 := pw_cell_below hb hc31
  have hc52 := pw_cell_below hb hc32
  have hc53 := pw_cell_below hb hc33
  clear hb
  go_wp2_with fail
  refine (agg_counts g m B P s lv D x _ HA5.out HX.out HL.out).mono ?_
  rintro e w6 ⟨D6, rfl, hA6, hT6⟩
  rw [HC.out]
  have HA6 := Aside0.mk hA6
  have HT6 := Aside0.mk hT6
  have HX6 := Aside0.mk (blk_kept HX5.out hT6.kept (fun h => own_map_ne HA5.out.map HX5.out h.symm))
  have HY6 := Aside0.mk (blk_kept HY5.out hT6.kept (fun h => own_map_ne HA5.out.map HY5.out h.symm))
  clear hA6 hT6
  have hbn := blk_new w6 (.cells #[.nilFunc] 62)
  have hcn : (w6.alloc (.cells #[.nilFunc] 62)).cell? ⟨w6.heap.size, 0, none⟩ = some .nilFunc := (blk_cell hbn 0).trans rfl
  have hfn := blk_frozen hbn 0
  clear hbn
  go_upto_region 8 with (fail)
  have hF7 := blk_new w6 (.cells #[.func (.func 29) #[] #[.pointer (some ⟨g2, 0, none⟩), .pointer (some ⟨g3, 0, none⟩)]] 62)
  have hb7 := below_alloc (Below.refl w6.heap.size w6) (.cells #[.func (.func 29) #[] #[.pointer (some ⟨g2, 0, none⟩), .pointer (some ⟨g3, 0, none⟩)]] 62)
  generalize w6.alloc (.cells #[.func (.func 29) #[] #[.pointer (some ⟨g2, 0, none⟩), .pointer (some ⟨g3, 0, none⟩)]] 62) = w7 at *
  obtain ⟨gf, hgf⟩ : ∃ gf, gf = w6.heap.size := ⟨_, rfl⟩
  rw [← hgf] at hF7
  rw [← hgf]
  clear hgf
  obtain ⟨u1, u2, u3, u4, u5, r1, r2, r3, r4, r5, hb8, hlk⟩ := five_run w7 (.func (.func 31) #[] #[.pointer (some ⟨g2, 0, none⟩), .pointer (some ⟨g3, 0, none⟩)]) (.func (.func 33) #[] #[.pointer (some ⟨g2, 0, none⟩), .pointer (some ⟨g3, 0, none⟩)]) (.func (.func 34) #[] #[.pointer (some ⟨gf, 0, none⟩)]) (.func (.func 35) #[] #[.pointer (some ⟨gf, 0, none⟩)]) (.func (.func 36) #[] #[.pointer (some ⟨g2, 0, none⟩), .pointer (some ⟨g3, 0, none⟩)])
  have hlk := hlk s.name (Nat.le_trans HZ.out (by decide))
  have HB8 := Aside0.mk (below_step hb7 hb8)
  have HA8 := Aside0.mk (HA6.out.below HB8.out)
  have HX8 := Aside0.mk (blk_below HX6.out HB8.out)
  have HY8 := Aside0.mk (blk_below HY6.out HB8.out)
  have HF8 := Aside0.mk (blk_below hF7 hb8)
  have hnm : (cntS s x).name = s.name := cntS_name s x
  have HNM := Aside0.mk hnm
  have HT8 := Aside0.mk ((Turns.of_below HB5.out P).then_ ((HT6.out.mono (S' := P) (fun k hk => by rw [hk]; exact HA.out.pm)).below HB8.out) (fun k hk => .inl hk))
  have hmm := @run_makeMap Tryd.prog
  have hc80 : u5.cell? ⟨g, 0, none⟩ = some (.string s.name) := by rw [← hnm]; exact (blk_cell HA8.out.blk 0).trans rfl
  have hc81 : u5.cell? ⟨g2, 0, none⟩ = some (.pointer (some ⟨g, 0, none⟩)) := (blk_cell HY8.out 0).trans rfl
  clear hF7 hb7 hb8 hnm
  by_cases hm0 : s.name = nmSum
  · have hm := hm0
    clear hm0
    have hb := HS2.out
    rw [bodySum (HNM.out.trans hm)] at hb
    obtain ⟨r, hr, hb⟩ := Option.map_eq_some_iff.1 hb
    have HR := Aside0.mk hr
    subst hb
    clear hr
    have HM := Aside0.mk hm
    rw [doSum hm] at hlk
    clear hm
    have hqf := neq_func
    go_wp2_with fail
    refine (step_sum g2 g3 g m B P (cntS s x) lv D6 x r _ HY8.out HX8.out HA8.out HR.out).mono ?_
    rintro e w9 ⟨rfl, hA, hT⟩
    have HA9 := Aside0.mk hA
    have HT9 := Aside0.mk (HT8.out.then_ hT (fun k hk => .inl (by rw [hk]; exact HA.out.pg)))
    have HY9 := blk_kept HY8.out hT.kept (fun h => (blk_ne HA8.out.blk HY8.out (by decide)) h.symm)
    have hc91 : w9.cell? ⟨g2, 0, none⟩ = some (.pointer (some ⟨g, 0, none⟩)) := (blk_cell HY9 0).trans rfl
    have hc92 : w9.cell? ⟨g, 2, none⟩ = some (.int .i64 (cntS s x).n) := (blk_cell HA9.out.blk 2).trans rfl
    have hf92 := blk_frozen HA9.out.blk 2
    clear hA hT HY9
    go_wp2
    go_ret
    have hb9 := blk_put HA9.out.blk 2 (.int .i64 (wrap64 ((cntS s x).n + 1))) (cs' := accCells { { cntS s x with hi := addHi (cntS s x).hi (cntS s x).lo r, lo := addLo (cntS s x).lo r } with n := wrap64 ((cntS s x).n + 1) } lv m) rfl
    have hAA := HA9.out.store ((Turns.refl w9 (fun k => k = g)).setCell (p := ⟨g, 2, none⟩) (.inl rfl) _) hb9 rfl rfl HA9.out.hi0 HA9.out.lo0 HA9.out.lo1
    have hTT := HT9.out.setCell (p := ⟨g, 2, none⟩) (.inl HA.out.pg) (.int .i64 (wrap64 ((cntS s x).n + 1)))
    first | exact ⟨_, _, rfl, hAA, hTT⟩ | exact ⟨rfl, ⟨_, _, hAA⟩, hTT⟩ | exact ⟨_, rfl, ⟨_, hAA⟩, hTT⟩ | exact ⟨_, _, ⟨rfl, hAA⟩, hTT⟩ | (refine ⟨rfl, ?_⟩; exact ⟨_, _, hAA, hTT⟩)
  by_cases hm1 : s.name = nmTotal
  · have hm := hm1
    clear hm1
    have hb := HS2.out
    rw [bodyTotal (HNM.out.trans hm)] at hb
    obtain ⟨r, hr, hb⟩ := Option.map_eq_some_iff.1 hb
    have HR := Aside0.mk hr
    subst hb
    clear hr
    have HM := Aside0.mk hm
    rw [doTotal hm] at hlk
    clear hm
    have hqf := neq_func
    go_wp2_with fail
    refine (step_total g2 g3 g m B P (cntS s x) lv D6 x r _ HY8.out HX8.out HA8.out HR.out).mono ?_
    rintro e w9 ⟨rfl, hA, hT⟩
    have HA9 := Aside0.mk hA
    have HT9 := Aside0.mk (HT8.out.then_ hT (fun k hk => .inl (by rw [hk]; exact HA.out.pg)))
    have HY9 := blk_kept HY8.out hT.kept (fun h => (blk_ne HA8.out.blk HY8.out (by decide)) h.symm)
    have hc91 : w9.cell? ⟨g2, 0, none⟩ = some (.pointer (some ⟨g, 0, none⟩)) := (blk_cell HY9 0).trans rfl
    have hc92 : w9.cell? ⟨g, 2, none⟩ = some (.int .i64 (cntS s x).n) := (blk_cell HA9.out.blk 2).trans rfl
    have hf92 := blk_frozen HA9.out.blk 2
    clear hA hT HY9
    go_wp2
    go_ret
    have hb9 := blk_put HA9.out.blk 2 (.int .i64 (wrap64 ((cntS s x).n + 1))) (cs' := accCells { { cntS s x with hi := addHi (cntS s x).hi (cntS s x).lo r, lo := addLo (cntS s x).lo r } with n := wrap64 ((cntS s x).n + 1) } lv m) rfl
    have hAA := HA9.out.store ((Turns.refl w9 (fun k => k = g)).setCell (p := ⟨g, 2, none⟩) (.inl rfl) _) hb9 rfl rfl HA9.out.hi0 HA9.out.lo0 HA9.out.lo1
    have hTT := HT9.out.setCell (p := ⟨g, 2, none⟩) (.inl HA.out.pg) (.int .i64 (wrap64 ((cntS s x).n + 1)))
    first | exact ⟨_, _, rfl, hAA, hTT⟩ | exact ⟨rfl, ⟨_, _, hAA⟩, hTT⟩ | exact ⟨_, rfl, ⟨_, hAA⟩, hTT⟩ | exact ⟨_, _, ⟨rfl, hAA⟩, hTT⟩ | (refine ⟨rfl, ?_⟩; exact ⟨_, _, hAA, hTT⟩)
  by_cases hm2 : s.name = nmMin
  · have hm := hm2
    clear hm2
    have hb := HS2.out
    rw [bodyMin (HNM.out.trans hm)] at hb
    have HBS := Aside0.mk hb
    clear hb
    have HM := Aside0.mk hm
    rw [doMin hm] at hlk
    clear hm
    have hqf := neq_func
    go_wp2_with fail
    refine (step_min gf g2 g3 g m B P (cntS s x) s2 lv D6 x _ HF8.out HY8.out HX8.out HA8.out HBS.out).mono ?_
    rintro e w9 ⟨rfl, hA, hT⟩
    have HA9 := Aside0.mk hA
    have HT9 := Aside0.mk (HT8.out.then_ hT (fun k hk => .inl (by rw [hk]; exact HA.out.pg)))
    have HY9 := blk_kept HY8.out hT.kept (fun h => (blk_ne HA8.out.blk HY8.out (by decide)) h.symm)
    have hc91 : w9.cell? ⟨g2, 0, none⟩ = some (.pointer (some ⟨g, 0, none⟩)) := (blk_cell HY9 0).trans rfl
    have hc92 : w9.cell? ⟨g, 2, none⟩ = some (.int .i64 s2.n) := (blk_cell HA9.out.blk 2).trans rfl
    have hf92 := blk_frozen HA9.out.blk 2
    clear hA hT HY9
    go_wp2
    go_ret
    have hb9 := blk_put HA9.out.blk 2 (.int .i64 (wrap64 (s2.n + 1))) (cs' := accCells { s2 with n := wrap64 (s2.n + 1) } lv m) rfl
    have hAA := HA9.out.store ((Turns.refl w9 (fun k => k = g)).setCell (p := ⟨g, 2, none⟩) (.inl rfl) _) hb9 rfl rfl HA9.out.hi0 HA9.out.lo0 HA9.out.lo1
    have hTT := HT9.out.setCell (p := ⟨g, 2, none⟩) (.inl HA.out.pg) (.int .i64 (wrap64 (s2.n + 1)))
    first | exact ⟨_, _, rfl, hAA, hTT⟩ | exact ⟨rfl, ⟨_, _, hAA⟩, hTT⟩ | exact ⟨_, rfl, ⟨_, hAA⟩, hTT⟩ | exact ⟨_, _, ⟨rfl, hAA⟩, hTT⟩ | (refine ⟨rfl, ?_⟩; exact ⟨_, _, hAA, hTT⟩)
  by_cases hm3 : s.name = nmMax
  · have hm := hm3
    clear hm3
    have hb := HS2.out
    rw [bodyMax (HNM.out.trans hm)] at hb
    have HBS := Aside0.mk hb
    clear hb
    have HM := Aside0.mk hm
    rw [doMax hm] at hlk
    clear hm
    have hqf := neq_func
    go_wp2_with fail
    refine (step_max gf g2 g3 g m B P (cntS s x) s2 lv D6 x _ HF8.out HY8.out HX8.out HA8.out HBS.out).mono ?_
    rintro e w9 ⟨rfl, hA, hT⟩
    have HA9 := Aside0.mk hA
    have HT9 := Aside0.mk (HT8.out.then_ hT (fun k hk => .inl (by rw [hk]; exact HA.out.pg)))
    have HY9 := blk_kept HY8.out hT.kept (fun h => (blk_ne HA8.out.blk HY8.out (by decide)) h.symm)
    have hc91 : w9.cell? ⟨g2, 0, none⟩ = some (.pointer (some ⟨g, 0, none⟩)) := (blk_cell HY9 0).trans rfl
    have hc92 : w9.cell? ⟨g, 2, none⟩ = some (.int .i64 s2.n) := (blk_cell HA9.out.blk 2).trans rfl
    have hf92 := blk_frozen HA9.out.blk 2
    clear hA hT HY9
    go_wp2
    go_ret
    have hb9 := blk_put HA9.out.blk 2 (.int .i64 (wrap64 (s2.n + 1))) (cs' := accCells { s2 with n := wrap64 (s2.n + 1) } lv m) rfl
    have hAA := HA9.out.store ((Turns.refl w9 (fun k => k = g)).setCell (p := ⟨g, 2, none⟩) (.inl rfl) _) hb9 rfl rfl HA9.out.hi0 HA9.out.lo0 HA9.out.lo1
    have hTT := HT9.out.setCell (p := ⟨g, 2, none⟩) (.inl HA.out.pg) (.int .i64 (wrap64 (s2.n + 1)))
    first | exact ⟨_, _, rfl, hAA, hTT⟩ | exact ⟨rfl, ⟨_, _, hAA⟩, hTT⟩ | exact ⟨_, rfl, ⟨_, hAA⟩, hTT⟩ | exact ⟨_, _, ⟨rfl, hAA⟩, hTT⟩ | (refine ⟨rfl, ?_⟩; exact ⟨_, _, hAA, hTT⟩)
  by_cases hm4 : s.name = nmConcat
  · have hm := hm4
    clear hm4
    have hb := HS2.out
    rw [bodyConcat (HNM.out.trans hm)] at hb
    have HE8 := Aside0.mk (show some g3 ≠ lv.ownBlock from fun e => by
      obtain ⟨_, _, _, q, _, cells, hc⟩ := (Kd.R_bound HA.out.row).1 g3 e.symm
      have h1 := blk_lt hc
      have h2 := HG3.out
      omega)
    have hT8m := (Turns.of_below HB5.out (fun k => k = m)).then_ (HT6.out.below HB8.out) (fun k hk => .inl hk)
    have hrow := Kd.R_mono (ok' := fun k => ((P k ∧ k ≠ g2) ∧ k ≠ g3) ∧ k ≠ m) (Kd.R_bound (row_map_ne HA.out.map HA.out.row)) (fun k hk => by
      obtain ⟨hk1, _, _, q, _, cells, hc⟩ := hk
      have h1 := blk_lt hc
      have h2 := HG3.out
      have h3 := HG2.out
      exact ⟨⟨⟨hk1.1, by omega⟩, by omega⟩, hk1.2⟩)
    have hrow := Kd.R_mono (ok' := fun k => (P k ∧ k ≠ g2) ∧ k ≠ g3) (Kd.R_kept hrow hT8m.kept (fun k hk => hk.2)) (fun k hk => hk.1)
    rw [← cntS_l s x] at hrow
    have hgl := blk_lt HA.out.blk
    have hml := HA.out.map.lt
    have HQ8 := Aside0.mk (show IsAcc u5 B (fun k => (P k ∧ k ≠ g2) ∧ k ≠ g3) g (cntS s x) lv m D6 from
      ⟨HA8.out.blk, ⟨⟨HA.out.pg, by have := HG2.out; omega⟩, by have := HG3.out; omega⟩, hrow, ⟨⟨HA.out.pm, by have := HG2.out; omega⟩, by have := HG3.out; omega⟩, HA8.out.map, HA8.out.seen, HA8.out.hi0, HA8.out.lo0, HA8.out.lo1⟩)
    have HP8 := Aside0.mk (show ∀ k, u5.heap.size ≤ k → (P k ∧ k ≠ g2) ∧ k ≠ g3 from fun k hk => ⟨⟨HP.out k (Nat.le_trans HT8.out.size hk), by have := blk_lt HY8.out; omega⟩, by have := blk_lt HX8.out; omega⟩)
    have HS8 := Aside0.mk (Nat.le_trans HS.out HT8.out.size)
    have HL8 := Aside0.mk (show (cntS s x).l.length + 1 ≤ 4000000000000 by rw [cntS_l]; exact HLL.out)
    clear hT8m hrow hgl hml
    obtain rfl := Option.some.inj hb
    have HM := Aside0.mk hm
    rw [doConcat hm] at hlk
    clear hm
    have hqf := neq_func
    go_wp2_with fail
    refine (step_concat g2 g3 g m B (fun k => (P k ∧ k ≠ g2) ∧ k ≠ g3) (cntS s x) lv D6 x _ HY8.out HX8.out HE8.out HQ8.out HP8.out HS8.out HL8.out).mono ?_
    rintro e w9 ⟨lv9, rfl, hA, hT⟩
    have HA9 := Aside0.mk (hA.mono (P' := P) (fun k hk => hk.1.1))
    have HT9 := Aside0.mk (HT8.out.then_ hT (fun k hk => .inl hk.1.1))
    have HY9 := blk_kept HY8.out hT.kept (fun h => h.1.2 rfl)
    have hc91 : w9.cell? ⟨g2, 0, none⟩ = some (.pointer (some ⟨g, 0, none⟩)) := (blk_cell HY9 0).trans rfl
    have hc92 : w9.cell? ⟨g, 2, none⟩ = some (.int .i64 (cntS s x).n) := (blk_cell HA9.out.blk 2).trans rfl
    have hf92 := blk_frozen HA9.out.blk 2
    clear hA hT HY9
    go_wp2
    go_ret
    have hb9 := blk_put HA9.out.blk 2 (.int .i64 (wrap64 ((cntS s x).n + 1))) (cs' := accCells { { cntS s x with l := (cntS s x).l ++ [x] } with n := wrap64 ((cntS s x).n + 1) } lv9 m) rfl
    have hAA := HA9.out.store ((Turns.refl w9 (fun k => k = g)).setCell (p := ⟨g, 2, none⟩) (.inl rfl) _) hb9 rfl rfl HA9.out.hi0 HA9.out.lo0 HA9.out.lo1
    have hTT := HT9.out.setCell (p := ⟨g, 2, none⟩) (.inl HA.out.pg) (.int .i64 (wrap64 ((cntS s x).n + 1)))
    first | exact ⟨_, _, rfl, hAA, hTT⟩ | exact ⟨rfl, ⟨_, _, hAA⟩, hTT⟩ | exact ⟨_, rfl, ⟨_, hAA⟩, hTT⟩ | exact ⟨_, _, ⟨rfl, hAA⟩, hTT⟩ | (refine ⟨rfl, ?_⟩; exact ⟨_, _, hAA, hTT⟩)
  have hb := HS2.out
  rw [bodyNone (by rw [HNM.out]; exact hm0) (by rw [HNM.out]; exact hm1) (by rw [HNM.out]; exact hm2) (by rw [HNM.out]; exact hm3) (by rw [HNM.out]; exact hm4)] at hb
  obtain rfl := Option.some.inj hb
  rw [doNone hm0 hm1 hm2 hm3 hm4] at hlk
  clear hm0 hm1 hm2 hm3 hm4
  have hc92 : u5.cell? ⟨g, 2, none⟩ = some (.int .i64 (cntS s x).n) := (blk_cell HA8.out.blk 2).trans rfl
  have hf92 := blk_frozen HA8.out.blk 2
  have hqf := neq_none
  go_wp2
  go_ret
  have hb9 := blk_put HA8.out.blk 2 (.int .i64 (wrap64 ((cntS s x).n + 1))) (cs' := accCells { (cntS s x) with n := wrap64 ((cntS s x).n + 1) } lv m) rfl
  have hAA := HA8.out.store ((Turns.refl u5 (fun k => k = g)).setCell (p := ⟨g, 2, none⟩) (.inl rfl) _) hb9 rfl rfl HA8.out.hi0 HA8.out.lo0 HA8.out.lo1
  have hTT := HT8.out.setCell (p := ⟨g, 2, none⟩) (.inl HA.out.pg) (.int .i64 (wrap64 ((cntS s x).n + 1)))
  first | exact ⟨_, _, rfl, hAA, hTT⟩ | exact ⟨rfl, ⟨_, _, hAA⟩, hTT⟩ | exact ⟨_, rfl, ⟨_, hAA⟩, hTT⟩ | exact ⟨_, _, ⟨rfl, hAA⟩, hTT⟩ | (refine ⟨rfl, ?_⟩; exact ⟨_, _, hAA, hTT⟩)
end Go.Proofs.YtjankdoaobklgaaDoor.Q
end
section
namespace Go.Proofs.YtjankdoaobklgaaDoor.Q
open Go.RowKit Go.Proofs.YtjankdoaobklgaaDoorW.PrintWords Go.Proofs.YtjankdoaobklgaaDoorW.PrintLast Go.Proofs.YtjankdoaobklgaaDoorW.PrintMore
attribute [local go_sem] max2_int min2_int max_two min_two max_three min_three max_four min_four   -- for this text's walks alone
set_option linter.unusedVariables false
set_option linter.unusedSimpArgs false

/-! ### agg_Known: function 23 -/
def agg_Known.f (a0 : ByteArray) : Option (Bool) := if a0.toList = ([99, 111, 117, 110, 116] : List UInt8) then (some true) else (if a0.toList = ([99, 111, 117, 110, 116, 42] : List UInt8) then (some true) else (if a0.toList = ([115, 117, 109] : List UInt8) then (some true) else (if a0.toList = ([116, 111, 116, 97, 108] : List UInt8) then (some true) else (if a0.toList = ([109, 105, 110] : List UInt8) then (some true) else (if a0.toList = ([109, 97, 120] : List UInt8) then (some true) else (if a0.toList = ([103, 114, 111, 117, 112, 95, 99, 111, 110, 99, 97, 116] : List UInt8) then (some true) else (some false)))))))
set_option maxHeartbeats 8000000 in
set_option maxRecDepth 100000 in
theorem agg_Known.calls (a0 : ByteArray) (r : Bool) (w : World) (h : agg_Known.f a0 = some r) :
    Calls Tryd.prog 23 #[.string a0] w fun e w' => e = .returned (.bool r) ∧ Drawn0 w w' := by
  have H : (if a0.toList = ([99, 111, 117, 110, 116] : List UInt8) then (some true) else (if a0.toList = ([99, 111, 117, 110, 116, 42] : List UInt8) then (some true) else (if a0.toList = ([115, 117, 109] : List UInt8) then (some true) else (if a0.toList = ([116, 111, 116, 97, 108] : List UInt8) then (some true) else (if a0.toList = ([109, 105, 110] : List UInt8) then (some true) else (if a0.toList = ([109, 97, 120] : List UInt8) then (some true) else (if a0.toList = ([103, 114, 111, 117, 112, 95, 99, 111, 110, 99, 97, 116] : List UInt8) then (some true) else (some false)))))))) = some r := h
  clear h
  by_cases c2 : a0.toList = ([99, 111, 117, 110, 116] : List UInt8)
  · rw [if_pos c2] at H
    have c2b0 : (a0.toList == ([99, 111, 117, 110, 116] : List UInt8)) = true := beq_iff_eq.mpr c2
    have c2b1 : (a0.toList != ([99, 111, 117, 110, 116] : List UInt8)) = false := bne_eq_false_iff_eq.mpr c2
    clear c2
    obtain rfl := Option.some.inj H
    simp only [Option.some.injEq, Prod.mk.injEq] at H
    obtain ⟨rfl⟩ := H
    go_enter Tryd.func23, Tryd.ntmps23
    go_wp2
    go_ret
    exact ⟨by first | rfl | (simp; done) | (simp [*]; done), by repeat (first | exact Drawn0.refl _ | apply Drawn0.step)⟩
  · rw [if_neg c2] at H
    have c2b0 : (a0.toList == ([99, 111, 117, 110, 116] : List UInt8)) = false := beq_eq_false_iff_ne.mpr c2
    have c2b1 : (a0.toList != ([99, 111, 117, 110, 116] : List UInt8)) = true := bne_iff_ne.mpr c2
    by_cases c3 : a0.toList = ([99, 111, 117, 110, 116, 42] : List UInt8)
    · rw [if_pos c3] at H
      have c3b0 : (a0.toList == ([99, 111, 117, 110, 116, 42] : List UInt8)) = true := beq_iff_eq.mpr c3
      have c3b1 : (a0.toList != ([99, 111, 117, 110, 116, 42] : List UInt8)) = false := bne_eq_false_iff_eq.mpr c3
      clear c3
      obtain rfl := Option.some.inj H
      simp only [Option.some.injEq, Prod.mk.injEq] at H
      obtain ⟨rfl⟩ := H
      go_enter Tryd.func23, Tryd.ntmps23
      go_wp2
      go_ret
      exact ⟨by first | rfl | (simp; done) | (simp [*]; done), by repeat (first | exact Drawn0.refl _ | apply Drawn0.step)⟩
    · rw [if_neg c3] at H
      have c3b0 : (a0.toList == ([99, 111, 117, 110, 116, 42] : List UInt8)) = false := beq_eq_false_iff_ne.mpr c3
      have c3b1 : (a0.toList != ([99, 111, 117, 110, 116, 42] : List UInt8)) = true := bne_iff_ne.mpr c3
      by_cases c4 : a0.toList = ([115, 117, 109] : List UInt8)
      · rw [if_pos c4] at H
        have c4b0 : (a0.toList == ([115, 117, 109] : List UInt8)) = true := beq_iff_eq.mpr c4
        have c4b1 : (a0.toList != ([115, 117, 109] : List UInt8)) = false := bne_eq_false_iff_eq.mpr c4
        clear c4
        obtain rfl := Option.some.inj H
        simp only [Option.some.injEq, Prod.mk.injEq] at H
        obtain ⟨rfl⟩ := H
        go_enter Tryd.func23, Tryd.ntmps23
        go_wp2
        go_ret
        exact ⟨by first | rfl | (simp; done) | (simp [*]; done), by repeat (first | exact Drawn0.refl _ | apply Drawn0.step)⟩
      · rw [if_neg c4] at H
        have c4b0 : (a0.toList == ([115, 117, 109] : List UInt8)) = false := beq_eq_false_iff_ne.mpr c4
        have c4b1 : (a0.toList != ([115, 117, 109] : List UInt8)) = true := bne_iff_ne.mpr c4
        by_cases c5 : a0.toList = ([116, 111, 116, 97, 108] : List UInt8)
        · rw [if_pos c5] at H
          have c5b0 : (a0.toList == ([116, 111, 116, 97, 108] : List UInt8)) = true := beq_iff_eq.mpr c5
          have c5b1 : (a0.toList != ([116, 111, 116, 97, 108] : List UInt8)) = false := bne_eq_false_iff_eq.mpr c5
          clear c5
          obtain rfl := Option.some.inj H
          simp only [Option.some.injEq, Prod.mk.injEq] at H
          obtain ⟨rfl⟩ := H
          go_enter Tryd.func23, Tryd.ntmps23
          go_wp2
          go_ret
          exact ⟨by first | rfl | (simp; done) | (simp [*]; done), by repeat (first | exact Drawn0.refl _ | apply Drawn0.step)⟩
        · rw [if_neg c5] at H
          have c5b0 : (a0.toList == ([116, 111, 116, 97, 108] : List UInt8)) = false := beq_eq_false_iff_ne.mpr c5
          have c5b1 : (a0.toList != ([116, 111, 116, 97, 108] : List UInt8)) = true := bne_iff_ne.mpr c5
          by_cases c6 : a0.toList = ([109, 105, 110] : List UInt8)
          · rw [if_pos c6] at H
            have c6b0 : (a0.toList == ([109, 105, 110] : List UInt8)) = true := beq_iff_eq.mpr c6
            have c6b1 : (a0.toList != ([109, 105, 110] : List UInt8)) = false := bne_eq_false_iff_eq.mpr c6
            clear c6
            obtain rfl := Option.some.inj H
            simp only [Option.some.injEq, Prod.mk.injEq] at H
            obtain ⟨rfl⟩ := H
            go_enter Tryd.func23, Tryd.ntmps23
            go_wp2
            go_ret
            exact ⟨by first | rfl | (simp; done) | (simp [*]; done), by repeat (first | exact Drawn0.refl _ | apply Drawn0.step)⟩
          · rw [if_neg c6] at H
            have c6b0 : (a0.toList == ([109, 105, 110] : List UInt8)) = false := beq_eq_false_iff_ne.mpr c6
            have c6b1 : (a0.toList != ([109, 105, 110] : List UInt8)) = true := bne_iff_ne.mpr c6
            by_cases c7 : a0.toList = ([109, 97, 120] : List UInt8)
            · rw [if_pos c7] at H
              have c7b0 : (a0.toList == ([109, 97, 120] : List UInt8)) = true := beq_iff_eq.mpr c7
              have c7b1 : (a0.toList != ([109, 97, 120] : List UInt8)) = false := bne_eq_false_iff_eq.mpr c7
              clear c7
              obtain rfl := Option.some.inj H
              simp only [Option.some.injEq, Prod.mk.injEq] at H
              obtain ⟨rfl⟩ := H
              go_enter Tryd.func23, Tryd.ntmps23
              go_wp2
              go_ret
              exact ⟨by first | rfl | (simp; done) | (simp [*]; done), by repeat (first | exact Drawn0.refl _ | apply Drawn0.step)⟩
            · rw [if_neg c7] at H
              have c7b0 : (a0.toList == ([109, 97, 120] : List UInt8)) = false := beq_eq_false_iff_ne.mpr c7
              have c7b1 : (a0.toList != ([109, 97, 120] : List UInt8)) = true := bne_iff_ne.mpr c7
              by_cases c8 : a0.toList = ([103, 114, 111, 117, 112, 95, 99, 111, 110, 99, 97, 116] : List UInt8)
              · rw [if_pos c8] at H
                have c8b0 : (a0.toList == ([103, 114, 111, 117, 112, 95, 99, 111, 110, 99, 97, 116] : List UInt8)) = true := beq_iff_eq.mpr c8
                have c8b1 : (a0.toList != ([103, 114, 111, 117, 112, 95, 99, 111, 110, 99, 97, 116] : List UInt8)) = false := bne_eq_false_iff_eq.mpr c8
                clear c8
                obtain rfl := Option.some.inj H
                simp only [Option.some.injEq, Prod.mk.injEq] at H
                obtain ⟨rfl⟩ := H
                go_enter Tryd.func23, Tryd.ntmps23
                go_wp2
                go_ret
                exact ⟨by first | rfl | (simp; done) | (simp [*]; done), by repeat (first | exact Drawn0.refl _ | apply Drawn0.step)⟩
              · rw [if_neg c8] at H
                have c8b0 : (a0.toList == ([103, 114, 111, 117, 112, 95, 99, 111, 110, 99, 97, 116] : List UInt8)) = false := beq_eq_false_iff_ne.mpr c8
                have c8b1 : (a0.toList != ([103, 114, 111, 117, 112, 95, 99, 111, 110, 99, 97, 116] : List UInt8)) = true := bne_iff_ne.mpr c8
                obtain rfl := Option.some.inj H
                simp only [Option.some.injEq, Prod.mk.injEq] at H
                obtain ⟨rfl⟩ := H
                go_enter Tryd.func23, Tryd.ntmps23
                go_wp2
                go_ret
                exact ⟨by first | rfl | (simp; done) | (simp [*]; done), by repeat (first | exact Drawn0.refl _ | apply Drawn0.step)⟩

end Go.Proofs.YtjankdoaobklgaaDoor.Q
end
section
namespace Go.Proofs.YtjankdoaobklgaaDoor.Q
open Go.RowKit Go.Proofs.YtjankdoaobklgaaDoorW.PrintWords Go.Proofs.YtjankdoaobklgaaDoorW.PrintLast Go.Proofs.YtjankdoaobklgaaDoorW.PrintMore

set_option maxHeartbeats 8000000 in
set_option maxRecDepth 100000 in
theorem agg_step_skip (g m B : Nat) (P : Nat → Prop) (s : AccS) (lv : Value) (D : DataW Unit) (x : S24) (w : World) (ha : IsAcc w B P g s lv m D) (hn : (s.name.toList == []) = false) (hx : rightV x = true) (hc : cntB s x = false) (hl : s.seen.length < 9223372036854775807) :
    Calls Tryd.prog 11 #[.pointer (some ⟨g, 0, none⟩), .agg (vcells x)] w fun e w' => ∃ D', e = .returned (.int .i64 0) ∧ IsAcc w' B P g (cntS s x) lv m D' ∧ Turns w w' P := by
  have hcz0 : w.cell? ⟨g, 0, none⟩ = some (.string s.name) := (blk_cell ha.blk 0).trans rfl
  have HA := Aside0.mk ha
  have HX := Aside0.mk hx
  have HL := Aside0.mk hl
  have HC := Aside0.mk hc
  have HF := Aside0.mk (rightV_f x)
  clear ha hx hl hc
  have hu1 := Tryd.underlying24
  go_enter Tryd.func11, Tryd.ntmps11
  go_wp2_with (first
    | ((with_reducible refine gate_dst (N := 2) rfl ?_); refine box_event ?hg (N := 2) ?hd (cs := #[.pointer (some ⟨g, 0, none⟩)]) (t := 25) ?hr ?_; (case hd => rfl); (case hg => rfl); (case hr => first | (go_simp; done) | (go_simp; rfl)); intro g2 hg w2 hbox hb; have HX2 := Aside0.mk hbox; have HB2 := Aside0.mk hb; have HG2 := Aside0.mk hg; have hc20 : w2.cell? ⟨g2, 0, none⟩ = some (.pointer (some ⟨g, 0, none⟩)) := (blk_cell hbox 0).trans rfl; have hc29 : w2.cell? ⟨g, 0, none⟩ = some (.string s.name) := pw_cell_below hb hcz0; clear hg hbox hb)
    | ((with_reducible refine gate_dst (N := 3) rfl ?_); refine box_event ?hg (N := 3) ?hd (cs := vcells x) (t := 24) ?hr ?_; (case hd => rfl); (case hg => rfl); (case hr => first | (go_simp; done) | (go_simp; rfl)); intro g3 hg w3 hbox hb; have HX3 := Aside0.mk hbox; have HB3 := Aside0.mk (below_step HB2.out hb); have HY3 := Aside0.mk (blk_below HX2.out hb); have HG3 := Aside0.mk (show w.heap.size ≤ g3 by rw [hg]; exact HB2.out.size); have hc30 : w3.cell? ⟨g3, 0, none⟩ = some (.int .u8 x.f0) := (blk_cell hbox 0).trans rfl; have hc31 : w3.cell? ⟨g3, 1, none⟩ = some (.int .i64 x.f1) := (blk_cell hbox 1).trans rfl; have hc32 : w3.cell? ⟨g3, 2, none⟩ = some (.string x.f2) := (blk_cell hbox 2).trans rfl; have hc33 : w3.cell? ⟨g2, 0, none⟩ = some (.pointer (some ⟨g, 0, none⟩)) := pw_cell_below hb hc20; have hc34 : w3.cell? ⟨g, 0, none⟩ = some (.string s.name) := pw_cell_below hb hc29; clear hg hbox hb))
  refine (value_Right.calls x.f0 x.f1 x.f2 (rightV x) _ HF.out).mono ?_
  rintro e w5 ⟨rfl, hb⟩
  rw [HX.out]
  have HB5 := Aside0.mk (below_step HB3.out hb)
  have HA5 := Aside0.mk (HA.out.below HB5.out)
  have HX5 := Aside0.mk (blk_below HX3.out hb)
  have HY5 := Aside0.mk (blk_below HY3.out hb)
  have hc50 := pw_cell_below hb hc30
  have hc51 := pw_cell_below hb hc31
  have hc52 := pw_cell_below hb hc32
  have hc53 := pw_cell_below hb hc33
  clear hb
  go_wp2_with fail
  refine (agg_counts g m B P s lv D x _ HA5.out HX.out HL.out).mono ?_
  rintro e w6 ⟨D6, rfl, hA6, hT6⟩
  rw [HC.out]
  have HA6 := Aside0.mk hA6
  have HT6 := Aside0.mk ((Turns.of_below HB5.out P).then_ hT6 (fun k hk => .inl (by rw [hk]; exact HA.out.pm)))
  clear hA6 hT6
  go_wp2
  go_ret
  exact ⟨_, rfl, HA6.out, HT6.out⟩

set_option maxHeartbeats 8000000 in
set_option maxRecDepth 100000 in
theorem agg_step_bad (g m B : Nat) (P : Nat → Prop) (s : AccS) (lv : Value) (D : DataW Unit) (x : S24) (w : World) (ha : IsAcc w B P g s lv m D) (hn : (s.name.toList == []) = false) (hx : rightV x = false) :
    Calls Tryd.prog 11 #[.pointer (some ⟨g, 0, none⟩), .agg (vcells x)] w fun e w' => e = .returned (.int .i64 2) ∧ Below w.heap.size w w' := by
  have hcz0 : w.cell? ⟨g, 0, none⟩ = some (.string s.name) := (blk_cell ha.blk 0).trans rfl
  have HA := Aside0.mk ha
  have HX := Aside0.mk hx
  have HF := Aside0.mk (rightV_f x)
  clear ha hx
  have hu1 := Tryd.underlying24
  go_enter Tryd.func11, Tryd.ntmps11
  go_wp2_with (first
    | ((with_reducible refine gate_dst (N := 2) rfl ?_); refine box_event ?hg (N := 2) ?hd (cs := #[.pointer (some ⟨g, 0, none⟩)]) (t := 25) ?hr ?_; (case hd => rfl); (case hg => rfl); (case hr => first | (go_simp; done) | (go_simp; rfl)); intro g2 hg w2 hbox hb; have HX2 := Aside0.mk hbox; have HB2 := Aside0.mk hb; have HG2 := Aside0.mk hg; have hc20 : w2.cell? ⟨g2, 0, none⟩ = some (.pointer (some ⟨g, 0, none⟩)) := (blk_cell hbox 0).trans rfl; have hc29 : w2.cell? ⟨g, 0, none⟩ = some (.string s.name) := pw_cell_below hb hcz0; clear hg hbox hb)
    | ((with_reducible refine gate_dst (N := 3) rfl ?_); refine box_event ?hg (N := 3) ?hd (cs := vcells x) (t := 24) ?hr ?_; (case hd => rfl); (case hg => rfl); (case hr => first | (go_simp; done) | (go_simp; rfl)); intro g3 hg w3 hbox hb; have HX3 := Aside0.mk hbox; have HB3 := Aside0.mk (below_step HB2.out hb); have HY3 := Aside0.mk (blk_below HX2.out hb); have HG3 := Aside0.mk (show w.heap.size ≤ g3 by rw [hg]; exact HB2.out.size); have hc30 : w3.cell? ⟨g3, 0, none⟩ = some (.int .u8 x.f0) := (blk_cell hbox 0).trans rfl; have hc31 : w3.cell? ⟨g3, 1, none⟩ = some (.int .i64 x.f1) := (blk_cell hbox 1).trans rfl; have hc32 : w3.cell? ⟨g3, 2, none⟩ = some (.string x.f2) := (blk_cell hbox 2).trans rfl; have hc33 : w3.cell? ⟨g2, 0, none⟩ = some (.pointer (some ⟨g, 0, none⟩)) := pw_cell_below hb hc20; have hc34 : w3.cell? ⟨g, 0, none⟩ = some (.string s.name) := pw_cell_below hb hc29; clear hg hbox hb))
  refine (value_Right.calls x.f0 x.f1 x.f2 (rightV x) _ HF.out).mono ?_
  rintro e w5 ⟨rfl, hb⟩
  rw [HX.out]
  have HB5 := Aside0.mk (below_step HB3.out hb)
  clear hb
  go_wp2
  go_ret
  exact ⟨rfl, HB5.out⟩

/-- an Acc without values -/
def newS (nm : ByteArray) (d : Bool) : AccS := ⟨nm, d, 0, 0, 0, ⟨0, 0, ⟨#[]⟩⟩, [], []⟩

theorem reset_is {w w' : World} {g : Nat} {nm : ByteArray} {d : Bool} {P : Nat → Prop} {B : Nat} (hb : w'.heap[g]? = some (.cells #[.string nm, .bool d, .int .i64 0, .int .u64 0, .int .u64 0, .int .u8 0, .int .i64 0, .string ⟨#[]⟩, .slice none 0 0, .map (some w.heap.size)] 31 (0, 0))) (hm : w'.heap[w.heap.size]? = some (.map #[] 0)) (hg : P g) (hP : P w.heap.size) : IsAcc w' B P g (newS nm d) (.slice none 0 0) w.heap.size (.map []) :=
  ⟨hb, hg, Kd.R_nil k24 24 w' B P, hP, by
    obtain ⟨es, clock, h1, h2⟩ := World.ownsMap_made w Tryd.prog 9 accR
    have e := blk_new w (.map #[] 0)
    rw [e] at h1
    injection h1 with h1
    injection h1 with h1 h3
    subst h1; subst h3
    exact ⟨_, _, hm, h2⟩, seen_new, Int.le_refl _, Int.le_refl _, (by show (0 : Int) < 18446744073709551616; decide)⟩

set_option maxHeartbeats 8000000 in
set_option maxRecDepth 100000 in
theorem agg_new (nm : ByteArray) (d : Bool) (w : World) (hk : agg_Known.f nm = some true) (hs : (d && (nm.toList == [99, 111, 117, 110, 116, 42])) = false) (hn : (nm.toList == []) = false) :
    Calls Tryd.prog 22 #[.string nm, .bool d] w fun e w' => ∃ g m, e = .returned (.tuple #[.pointer (some ⟨g, 0, none⟩), .int .i64 0]) ∧ IsAcc w' w.heap.size (fun k => w.heap.size ≤ k) g (newS nm d) (.slice none 0 0) m (.map []) ∧ Below w.heap.size w w' := by
  have HK := Aside0.mk hk
  have HN := Aside0.mk hn
  clear hk hn
  go_enter Tryd.func22, Tryd.ntmps22
  go_wp2_with fail
  refine (agg_Known.calls nm true _ HK.out).mono ?_
  rintro e w1 ⟨rfl, hd1⟩
  have HB1 := Aside0.mk hd1.below
  clear hd1
  cases d
  · go_wp2_with (first
      | ((with_reducible refine gate_dst (N := 20) rfl ?_); refine box_event ?hg (N := 20) ?hd (cs := #[.string nm, .bool false, .int .i64 0, .int .u64 0, .int .u64 0, .int .u8 0, .int .i64 0, .string ⟨#[]⟩, .slice none 0 0, .map none]) (t := 31) ?hr ?_; (case hd => rfl); (case hg => rfl); (case hr => first | (go_simp; done) | (go_simp; rfl)); intro g2 hg w2 hbox hb; have HX2 := Aside0.mk hbox; have HB2 := Aside0.mk (below_step HB1.out hb); have HG2 := Aside0.mk (show w.heap.size ≤ g2 by rw [hg]; exact HB1.out.size); clear hg hbox hb))
    refine (agg_Reset g2 nm false _ _ _ _ _ _ _ _ _ HX2.out HN.out).mono ?_
    rintro e w3 ⟨rfl, h1, h2, hT⟩
    have HI := Aside0.mk (reset_is (B := w.heap.size) (P := fun k => w.heap.size ≤ k) h1 h2 HG2.out HB2.out.size)
    have HB3 := Aside0.mk (((Turns.of_below HB2.out (fun _ => False)).then_ hT (fun k hk => .inr (by rw [hk]; exact HG2.out))).toBelow (Nat.le_refl _) (fun _ h => h.elim))
    clear h1 h2 hT
    go_wp2
    go_ret2
    exact ⟨_, _, rfl, HI.out, HB3.out⟩
  · rw [Bool.true_and] at hs
    go_wp2_with (first
      | ((with_reducible refine gate_dst (N := 20) rfl ?_); refine box_event ?hg (N := 20) ?hd (cs := #[.string nm, .bool true, .int .i64 0, .int .u64 0, .int .u64 0, .int .u8 0, .int .i64 0, .string ⟨#[]⟩, .slice none 0 0, .map none]) (t := 31) ?hr ?_; (case hd => rfl); (case hg => rfl); (case hr => first | (go_simp; done) | (go_simp; rfl)); intro g2 hg w2 hbox hb; have HX2 := Aside0.mk hbox; have HB2 := Aside0.mk (below_step HB1.out hb); have HG2 := Aside0.mk (show w.heap.size ≤ g2 by rw [hg]; exact HB1.out.size); clear hg hbox hb))
    refine (agg_Reset g2 nm true _ _ _ _ _ _ _ _ _ HX2.out HN.out).mono ?_
    rintro e w3 ⟨rfl, h1, h2, hT⟩
    have HI := Aside0.mk (reset_is (B := w.heap.size) (P := fun k => w.heap.size ≤ k) h1 h2 HG2.out HB2.out.size)
    have HB3 := Aside0.mk (((Turns.of_below HB2.out (fun _ => False)).then_ hT (fun k hk => .inr (by rw [hk]; exact HG2.out))).toBelow (Nat.le_refl _) (fun _ h => h.elim))
    clear h1 h2 hT
    go_wp2
    go_ret2
    exact ⟨_, _, rfl, HI.out, HB3.out⟩

set_option maxHeartbeats 8000000 in
set_option maxRecDepth 100000 in
theorem agg_new_unknown (nm : ByteArray) (d : Bool) (w : World) (hk : agg_Known.f nm = some false) :
    Calls Tryd.prog 22 #[.string nm, .bool d] w fun e w' => e = .returned (.tuple #[.pointer none, .int .i64 21]) ∧ Below w.heap.size w w' := by
  have HK := Aside0.mk hk
  clear hk
  go_enter Tryd.func22, Tryd.ntmps22
  go_wp2_with fail
  refine (agg_Known.calls nm false _ HK.out).mono ?_
  rintro e w1 ⟨rfl, hd1⟩
  have HB1 := Aside0.mk hd1.below
  clear hd1
  go_wp2
  go_ret2
  exact ⟨rfl, HB1.out⟩

set_option maxHeartbeats 8000000 in
set_option maxRecDepth 100000 in
theorem agg_new_star (nm : ByteArray) (w : World) (hk : agg_Known.f nm = some true) (hs : (nm.toList == [99, 111, 117, 110, 116, 42]) = true) :
    Calls Tryd.prog 22 #[.string nm, .bool true] w fun e w' => e = .returned (.tuple #[.pointer none, .int .i64 2]) ∧ Below w.heap.size w w' := by
  have HK := Aside0.mk hk
  clear hk
  go_enter Tryd.func22, Tryd.ntmps22
  go_wp2_with fail
  refine (agg_Known.calls nm true _ HK.out).mono ?_
  rintro e w1 ⟨rfl, hd1⟩
  have HB1 := Aside0.mk hd1.below
  clear hd1
  go_wp2
  go_ret2
  exact ⟨rfl, HB1.out⟩
end Go.Proofs.YtjankdoaobklgaaDoor.Q
end
section
namespace Go.Proofs.YtjankdoaobklgaaDoor.Q
open Go.RowKit Go.Proofs.YtjankdoaobklgaaDoorW.PrintWords Go.Proofs.YtjankdoaobklgaaDoorW.PrintLast Go.Proofs.YtjankdoaobklgaaDoorW.PrintMore

/-- the value at a place -/
def vAt (xs : List S24) (i : Nat) : S24 := xs.getD i ⟨0, 0, ⟨#[]⟩⟩
/-- xs[j], xs[j+1] turned about -/
def swapAt (xs : List S24) (j : Nat) : List S24 := (xs.set (j + 1) (vAt xs j)).set j (vAt xs (j + 1))
theorem swapAt_length (xs : List S24) (j : Nat) : (swapAt xs j).length = xs.length := by simp [swapAt]
def insJ (a : Nat) : Nat → List S24 → Option (List S24)
  | 0, xs => some xs
  | j + 1, xs => if j + 1 ≤ a then some xs else (cmpO (vAt xs (j + 1)) (vAt xs j)).bind fun c => if c < 0 then insJ a j (swapAt xs j) else some xs
def insI (a : Nat) : Nat → Nat → List S24 → Option (List S24)
  | 0, _, xs => some xs
  | k + 1, i, xs => (insJ a i xs).bind (insI a k (i + 1))

/-- The row xs lies in block b, on its own. -/
structure Srt (w W : World) (b : Nat) (xs : List S24) : Prop where
  turns : Turns w W (fun k => k = b)
  old : ∃ o, w.heap[b]? = some o
  row : ∃ cs : Array Value, W.heap[b]? = some (.cells cs 24 (0, 0)) ∧ ∀ j, j < xs.length → cs[j * 3]? = some (.int .u8 (vAt xs j).f0) ∧ cs[j * 3 + 1]? = some (.int .i64 (vAt xs j).f1) ∧ cs[j * 3 + 2]? = some (.string (vAt xs j).f2)
section
variable {w W W' : World} {b : Nat} {xs : List S24}
theorem Srt.below (h : Srt w W b xs) (hb : Below W.heap.size W W') : Srt w W' b xs := by
  obtain ⟨cs, h1, h2⟩ := h.row
  exact ⟨h.turns.below hb, h.old, cs, blk_below h1 hb, h2⟩
theorem Srt.cell (h : Srt w W b xs) (j : Nat) (hj : j < xs.length) : W.cell? ⟨b, j * 3, none⟩ = some (.int .u8 (vAt xs j).f0) ∧ W.cell? ⟨b, j * 3 + 1, none⟩ = some (.int .i64 (vAt xs j).f1) ∧ W.cell? ⟨b, j * 3 + 2, none⟩ = some (.string (vAt xs j).f2) := by
  obtain ⟨cs, h1, h2⟩ := h.row
  obtain ⟨e0, e1, e2⟩ := h2 j hj
  exact ⟨(blk_cell h1 _).trans e0, (blk_cell h1 _).trans e1, (blk_cell h1 _).trans e2⟩
theorem Srt.frozen (h : Srt w W b xs) (i : Nat) : W.frozen? ⟨b, i, none⟩ = false := by
  obtain ⟨cs, h1, h2⟩ := h.row
  exact blk_frozen h1 i
/-- one element written anew -/
theorem Srt.put (h : Srt w W b xs) (j : Nat) (hj : j < xs.length) (x : S24) :
    Srt w (((W.setCell ⟨b, j * 3, none⟩ (.int .u8 x.f0)).setCell ⟨b, j * 3 + 1, none⟩ (.int .i64 x.f1)).setCell ⟨b, j * 3 + 2, none⟩ (.string x.f2)) b (xs.set j x) := by
  obtain ⟨cs, h1, h2⟩ := h.row
  have hb3 := blk_set (blk_set (blk_set h1 (j * 3) (.int .u8 x.f0)) (j * 3 + 1) (.int .i64 x.f1)) (j * 3 + 2) (.string x.f2)
  obtain ⟨e0, e1, e2⟩ := h2 j hj
  have l0 : j * 3 + 2 < cs.size := by
    have := (Array.getElem?_eq_some_iff.1 e2).1
    exact this
  refine ⟨((h.turns.setCell (p := ⟨b, j * 3, none⟩) (.inl rfl) _).setCell (p := ⟨b, j * 3 + 1, none⟩) (.inl rfl) _).setCell (p := ⟨b, j * 3 + 2, none⟩) (.inl rfl) _, h.old, _, hb3, fun i hi => ?_⟩
  rw [List.length_set] at hi
  by_cases hij : i = j
  · subst hij
    have ev : vAt (xs.set i x) i = x := by simp [vAt, List.getD_eq_getElem?_getD, hi]
    rw [ev]
    simp [Array.getElem?_setIfInBounds, Array.size_setIfInBounds]
    omega
  · have ev : vAt (xs.set j x) i = vAt xs i := by
      simp only [vAt, List.getD_eq_getElem?_getD]
      rw [List.getElem?_set_ne (fun e => hij e.symm)]
    rw [ev]
    obtain ⟨f0, f1, f2⟩ := h2 i hi
    have n0 : ∀ p q : Nat, p < 3 → q < 3 → i * 3 + p ≠ j * 3 + q := fun p q hp hq => by omega
    have m0 := n0 0 0 (by omega) (by omega); have m1 := n0 0 1 (by omega) (by omega); have m2 := n0 0 2 (by omega) (by omega)
    have m3 := n0 1 0 (by omega) (by omega); have m4 := n0 1 1 (by omega) (by omega); have m5 := n0 1 2 (by omega) (by omega)
    have m6 := n0 2 0 (by omega) (by omega); have m7 := n0 2 1 (by omega) (by omega); have m8 := n0 2 2 (by omega) (by omega)
    simp only [Nat.add_zero] at m0 m1 m2 m3 m6
    refine ⟨?_, ?_, ?_⟩
    · rw [Array.getElem?_setIfInBounds_ne (fun e => m2 e.symm), Array.getElem?_setIfInBounds_ne (fun e => m1 e.symm), Array.getElem?_setIfInBounds_ne (fun e => m0 e.symm)]; exact f0
    · rw [Array.getElem?_setIfInBounds_ne (fun e => m5 e.symm), Array.getElem?_setIfInBounds_ne (fun e => m4 e.symm), Array.getElem?_setIfInBounds_ne (fun e => m3 e.symm)]; exact f1
    · rw [Array.getElem?_setIfInBounds_ne (fun e => m8 e.symm), Array.getElem?_setIfInBounds_ne (fun e => m7 e.symm), Array.getElem?_setIfInBounds_ne (fun e => m6 e.symm)]; exact f2
theorem Srt.drew (h : Srt w W b xs) : Srt w W.drew b xs := h.below (Below.refl _ _).drew
end
end Go.Proofs.YtjankdoaobklgaaDoor.Q
end
