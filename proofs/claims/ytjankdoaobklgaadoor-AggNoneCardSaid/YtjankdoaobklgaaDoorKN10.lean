import Derived.Test.YtjankdoaobklgaaDoorKN09
import Derived.Test.YtjankdoaobklgaaDoorKN08
section
namespace Go.Proofs.YtjankdoaobklgaaDoor.Q
set_option maxRecDepth 100000 in
theorem awake_true : cardindexlaw08_awake.f = some true := by kernel_rfl
end Go.Proofs.YtjankdoaobklgaaDoor.Q
end
section
namespace Go.Proofs.YtjankdoaobklgaaDoor.Q
open Go.RowKit Go.Proofs.YtjankdoaobklgaaDoorW.PrintWords Go.Proofs.YtjankdoaobklgaaDoorW.PrintLast Go.Proofs.YtjankdoaobklgaaDoorW.PrintMore

set_option maxHeartbeats 8000000 in
set_option maxRecDepth 100000 in
theorem agg_none (x : S24) (w : World) (hG : Glob w) :
    Calls Tryd.prog 3 #[.agg (vcells x)] w fun e w' => e = .returned (.bool true) ∧ Below w.heap.size w w' := by
  have HG := Aside0.mk hG
  clear hG
  have hu1 := Tryd.underlying24
  have hu2 := Tryd.underlying31
  go_enter Tryd.func3, Tryd.ntmps3
  go_wp2_with (first
    | ((with_reducible refine gate_dst (N := 1) rfl ?_); refine box_event ?hg (N := 1) ?hd (cs := vcells x) (t := 24) ?hr ?_; (case hd => rfl); (case hg => rfl); (case hr => first | (go_simp; done) | (go_simp; rfl)); intro g1 hg w1 hbox hb; have HX1 := Aside0.mk hbox; have HB1 := Aside0.mk hb; clear hg hbox hb)
    | ((with_reducible refine gate_dst (N := 10) rfl ?_); refine box_event ?hg (N := 10) ?hd (cs := #[.string ⟨#[]⟩, .bool false, .int .i64 0, .int .u64 0, .int .u64 0, .int .u8 0, .int .i64 0, .string ⟨#[]⟩, .slice none 0 0, .map none]) (t := 31) ?hr ?_; (case hd => rfl); (case hg => rfl); (case hr => first | (go_simp; done) | (go_simp; rfl)); intro g2 hg w2 hbox hb; have HX2 := Aside0.mk hbox; have HB2 := Aside0.mk (below_step HB1.out hb); have HY2 := Aside0.mk (blk_below HX1.out hb); clear hg hbox hb))
  have hS3 := blk_new w2 (.cells #[.pointer none, .pointer (some ⟨g2, 0, none⟩)] 25)
  have hb3 := below_alloc (Below.refl w2.heap.size w2) (.cells #[.pointer none, .pointer (some ⟨g2, 0, none⟩)] 25)
  generalize w2.alloc (.cells #[.pointer none, .pointer (some ⟨g2, 0, none⟩)] 25) = w3 at *
  obtain ⟨gs, hgs⟩ : ∃ gs, gs = w2.heap.size := ⟨_, rfl⟩
  rw [← hgs] at hS3
  rw [← hgs]
  clear hgs
  have HS3 := Aside0.mk hS3
  have HX3 := Aside0.mk (blk_below HY2.out hb3)
  have HY3 := Aside0.mk (blk_below HX2.out hb3)
  have HB3 := Aside0.mk (below_step HB2.out hb3)
  clear hS3 hb3
  go_loopg [13] 2 (fun kq v13 wr => ∃ i : Nat, v13 = .int .i64 (i : Int) ∧ Aside0 (i + kq = 2) ∧ Aside0 (Below w3.heap.size w3 wr))
  case atStart => exact ⟨0, rfl, ⟨rfl⟩, ⟨Below.refl _ _⟩⟩
  case round =>
    obtain ⟨i, rfl, HI, HB⟩ := hrel
    have hs := blk_below HS3.out HB.out
    have hs0 : wr.cell? ⟨gs, 0, none⟩ = some (.pointer none) := (blk_cell hs 0).trans rfl
    have hs1 : wr.cell? ⟨gs, 1, none⟩ = some (.pointer (some ⟨g2, 0, none⟩)) := (blk_cell hs 1).trans rfl
    clear hs
    match i, HI with
    | 0, HI =>
      go_wp2_with fail
      refine (nil_reset _).mono ?_
      rintro e w4 ⟨rfl, hb4⟩
      have HB4 := Aside0.mk (below_step HB.out hb4)
      clear hb4
      go_wp2_with fail
      refine (nil_final _).mono ?_
      rintro e w5 ⟨rfl, hb5⟩
      have HB5 := Aside0.mk (below_step HB4.out hb5)
      have hX5 := blk_below HX3.out HB5.out
      have hx50 : ∀ o, (w5.alloc o).cell? ⟨g1, 0, none⟩ = some (.int .u8 x.f0) := fun o => (blk_cell (blk_alloc hX5 o) 0).trans rfl
      have hx51 : ∀ o, (w5.alloc o).cell? ⟨g1, 1, none⟩ = some (.int .i64 x.f1) := fun o => (blk_cell (blk_alloc hX5 o) 1).trans rfl
      have hx52 : ∀ o, (w5.alloc o).cell? ⟨g1, 2, none⟩ = some (.string x.f2) := fun o => (blk_cell (blk_alloc hX5 o) 2).trans rfl
      clear hb5 hX5
      go_wp2_with fail
      refine (nil_step x _).mono ?_
      rintro e w6 ⟨rfl, hb6⟩
      have HB6 := Aside0.mk (below_step (below_alloc HB5.out _) hb6)
      have hX6 := blk_below (blk_new w5 (.cells #[.int .u8 0, .int .i64 0, .string ⟨#[]⟩] 24)) hb6
      have hx60 : w6.cell? ⟨w5.heap.size, 0, none⟩ = some (.int .u8 0) := (blk_cell hX6 0).trans rfl
      have hx61 : w6.cell? ⟨w5.heap.size, 1, none⟩ = some (.int .i64 0) := (blk_cell hX6 1).trans rfl
      have hx62 : w6.cell? ⟨w5.heap.size, 2, none⟩ = some (.string ⟨#[]⟩) := (blk_cell hX6 2).trans rfl
      clear hb6 hX6
      go_wp2
      go_roundg (gk - 1)
      case measure => have := HI.out; omega
      case rel => exact ⟨1, by go_num, ⟨by have := HI.out; omega⟩, HB6⟩
    | 1, HI =>
      have hn := (blk_cell (blk_below HY3.out HB.out) 0).trans (rfl : _ = some (Value.string ⟨#[]⟩))
      go_wp2_with fail
      refine (none_reset g2 _ hn).mono ?_
      rintro e w4 ⟨rfl, hb4⟩
      have HB4 := Aside0.mk (below_step HB.out hb4)
      clear hb4
      have hn4 := (blk_cell (blk_below HY3.out HB4.out) 0).trans (rfl : _ = some (Value.string ⟨#[]⟩))
      go_wp2_with fail
      refine (none_final g2 _ hn4).mono ?_
      rintro e w5 ⟨rfl, hb5⟩
      have HB5 := Aside0.mk (below_step HB4.out hb5)
      have hX5 := blk_below HX3.out HB5.out
      have hx50 : ∀ o, (w5.alloc o).cell? ⟨g1, 0, none⟩ = some (.int .u8 x.f0) := fun o => (blk_cell (blk_alloc hX5 o) 0).trans rfl
      have hx51 : ∀ o, (w5.alloc o).cell? ⟨g1, 1, none⟩ = some (.int .i64 x.f1) := fun o => (blk_cell (blk_alloc hX5 o) 1).trans rfl
      have hx52 : ∀ o, (w5.alloc o).cell? ⟨g1, 2, none⟩ = some (.string x.f2) := fun o => (blk_cell (blk_alloc hX5 o) 2).trans rfl
      clear hb5 hX5
      have hn5 := pw_cell_below (below_alloc (Below.refl w5.heap.size w5) (.cells #[.int .u8 0, .int .i64 0, .string ⟨#[]⟩] 24)) ((blk_cell (blk_below HY3.out HB5.out) 0).trans (rfl : _ = some (Value.string ⟨#[]⟩)))
      go_wp2_with fail
      refine (none_step g2 x _ hn5).mono ?_
      rintro e w6 ⟨rfl, hb6⟩
      have HB6 := Aside0.mk (below_step (below_alloc HB5.out _) hb6)
      have hX6 := blk_below (blk_new w5 (.cells #[.int .u8 0, .int .i64 0, .string ⟨#[]⟩] 24)) hb6
      have hx60 : w6.cell? ⟨w5.heap.size, 0, none⟩ = some (.int .u8 0) := (blk_cell hX6 0).trans rfl
      have hx61 : w6.cell? ⟨w5.heap.size, 1, none⟩ = some (.int .i64 0) := (blk_cell hX6 1).trans rfl
      have hx62 : w6.cell? ⟨w5.heap.size, 2, none⟩ = some (.string ⟨#[]⟩) := (blk_cell hX6 2).trans rfl
      clear hb6 hX6
      go_wp2
      go_roundg (gk - 1)
      case measure => have := HI.out; omega
      case rel => exact ⟨2, by go_num, ⟨by have := HI.out; omega⟩, HB6⟩
    | i + 2, HI =>
      have hd : decide (((i + 2 : Nat) : Int) < 2) = false := decide_eq_false (by omega)
      go_wp2_with fail
      refine (cardindexlaw08_awake.calls true wr rfl (Glob.below (below_step HB3.out HB.out) HG.out) awake_true).mono ?_
      rintro e w7 ⟨rfl, hb7⟩
      have HB7 := Aside0.mk (below_step (below_step HB3.out HB.out) hb7)
      clear hb7
      go_wp2
      go_ret
      exact ⟨rfl, HB7.out⟩
end Go.Proofs.YtjankdoaobklgaaDoor.Q
end
