import Derived.Test.YtjankdoaobklgaaDoorKN05
import Derived.Test.YtjankdoaobklgaaDoorKN07
import Derived.Test.YtjankdoaobklgaaDoorKN01
import Derived.Test.YtjankdoaobklgaaDoorKN02
import Derived.Laws.ResultCell
import Derived.Laws.Rows
import Derived.Test.YtjankdoaobklgaaDoorKN04
section
namespace Go.Proofs.YtjankdoaobklgaaDoor.Q
open Go.RowKit Go.Proofs.YtjankdoaobklgaaDoorW.PrintWords Go.Proofs.YtjankdoaobklgaaDoorW.PrintLast Go.Proofs.YtjankdoaobklgaaDoorW.PrintMore

theorem C_of_Srt {w W : World} {b : Nat} {xs : List S24} (h : Srt w W b xs) (hl : xs.length ≤ 1000000) : Kd.C k24 W (some ⟨b, 0, none⟩) xs.length xs := by
  refine ⟨rfl, by omega, fun _ => ⟨_, rfl, fun j p hj => ?_⟩⟩
  obtain ⟨hjl, hjp⟩ := List.getElem?_eq_some_iff.1 hj
  have hv : vAt xs j = p := by simp [vAt, List.getD_eq_getElem?_getD, hj]
  obtain ⟨c0, c1, c2⟩ := h.cell j hjl
  rw [hv] at c0 c1 c2
  refine ⟨_, k24.K_len (k24_mk W p), k24_mk W p, fun i u hu => ?_⟩
  rw [add_plain]
  match i, hu with
  | 0, hu => obtain rfl := Option.some.inj hu; exact c0
  | 1, hu => obtain rfl := Option.some.inj hu; exact c1
  | 2, hu => obtain rfl := Option.some.inj hu; exact c2

theorem Srt_of_R {W : World} {B : Nat} {P : Nat → Prop} {v : Value} {xs : List S24} (h : Kd.R k24 24 W B P v xs) (hne : xs ≠ []) : ∃ b c, v = .slice (some ⟨b, 0, none⟩) xs.length c ∧ B ≤ b ∧ Srt W W b xs := by
  obtain ⟨A, c, rfl, _, hC⟩ := Kd.R_reads h
  obtain ⟨h0, inner, ho, hrep⟩ := h
  rcases ho.2 with ⟨_, hn⟩ | ⟨g, cap, cur, hv, hge, hcur, _⟩
  · exact absurd (List.length_eq_zero_iff.1 hn) hne
  · injection hv with hA _ hcc
    subst hA; subst hcc
    refine ⟨g, _, rfl, hge, Turns.refl W _, ⟨_, hcur⟩, cur, hcur, fun j hj => ?_⟩
    obtain ⟨ad, e1, x0, x1, x2⟩ := at_T24 hC (j : Int) (by omega) (by omega)
    obtain rfl := Option.some.inj e1
    have hv : rd_T24 xs (j : Int) = vAt xs j := by simp [rd_T24, vAt, z24]
    rw [hv, Int.toNat_natCast, add_plain] at x0 x1 x2
    exact ⟨(blk_cell hcur _).symm.trans x0, (blk_cell hcur _).symm.trans x1, (blk_cell hcur _).symm.trans x2⟩

set_option maxHeartbeats 8000000 in
set_option maxRecDepth 100000 in
theorem stable_short (b c : Nat) (xs r : List S24) (w0 w : World) (h : Srt w0 w b xs) (hlen : xs.length < 20) (hr : insI 0 (xs.length - 1) 1 xs = some r) :
    Calls Tryd.prog 85 #[.slice (some ⟨b, 0, none⟩) xs.length c, .int .i64 xs.length, .func (.func 30) #[] #[]] w fun en w' => en = .returned (.tuple #[]) ∧ Srt w0 w' b r ∧ r.length = xs.length := by
  have H := Aside0.mk (fun w1 (h1 : w1 = w) => sort_ins b c 0 xs.length xs r w0 w1 (h1 ▸ h) (by omega) (Nat.zero_le _) (Nat.le_refl _) hr)
  have hd1 : decide ((20 : Int) ≤ (xs.length : Int)) = false := decide_eq_false (by omega)
  have hd2 : decide ((20 : Int) < (xs.length : Int)) = false := decide_eq_false (by omega)
  have hq1 : ¬ (20 : Int) ≤ (xs.length : Int) := by omega
  have hq2 : ¬ (20 : Int) < (xs.length : Int) := by omega
  clear h hr
  go_enter Tryd.func85, Tryd.ntmps85
  go_wp2
  go_loopg [7, 8] 0 (fun kq v7 v8 wr => v7 = .int .i64 0 ∧ v8 = .int .i64 20 ∧ Aside0 (wr = w))
  case atStart => exact ⟨rfl, rfl, ⟨rfl⟩⟩
  case round =>
    obtain ⟨rfl, rfl, HW⟩ := hrel
    go_wp2_with fail
    refine (H.out wr HW.out).mono ?_
    rintro en w5 ⟨rfl, hS, hL⟩
    have HS := Aside0.mk hS
    have HL := Aside0.mk hL
    clear hS hL
    go_wp2
    go_loopg [6] 0 (fun kq v6 wr => v6 = .int .i64 20 ∧ Aside0 (wr = w5))
    case atStart => exact ⟨rfl, ⟨rfl⟩⟩
    case round =>
      obtain ⟨rfl, HW2⟩ := hrel
      go_wp2
      go_end0
      have e := HW2.out
      subst e
      exact ⟨rfl, HS.out, HL.out⟩

set_option maxHeartbeats 8000000 in
set_option maxRecDepth 100000 in
theorem sort_stable (b c : Nat) (xs r : List S24) (w0 w : World) (h : Srt w0 w b xs) (hlen : xs.length < 20) (hr : insI 0 (xs.length - 1) 1 xs = some r) :
    Calls Tryd.prog 67 #[.slice (some ⟨b, 0, none⟩) xs.length c, .func (.func 30) #[] #[]] w fun en w' => en = .returned (.tuple #[]) ∧ Srt w0 w' b r ∧ r.length = xs.length := by
  have H := Aside0.mk (stable_short b c xs r w0 w h hlen hr)
  clear h hr hlen
  go_enter Tryd.func67, Tryd.ntmps67
  go_wp2_with fail
  refine H.out.mono ?_
  rintro en w5 ⟨rfl, hS, hL⟩
  go_wp2
  go_end0
  exact ⟨rfl, hS, hL⟩

/-- sorted, stably -/
def sortO (xs : List S24) : Option (List S24) := if xs.length < 20 ∧ xs ≠ [] then insI 0 (xs.length - 1) 1 xs else none

set_option maxHeartbeats 8000000 in
set_option maxRecDepth 100000 in
theorem sorted_stable (Bs : Nat) (A : Option Addr) (c : Nat) (xs r : List S24) (w : World) (hC : Kd.C k24 w A xs.length xs) (hblk : ∀ ad, A = some ad → ad.block < w.heap.size) (hBs : Bs < w.heap.size) (hc : w.cell? ⟨Bs, 0, none⟩ = some (.slice A xs.length c)) (hr : sortO xs = some r) :
    Calls Tryd.prog 48 #[.func (.func 68) #[] #[.pointer (some ⟨Bs, 0, none⟩)], .func (.func 30) #[] #[]] w fun en w' => ∃ b c', en = .returned (.slice (some ⟨b, 0, none⟩) r.length c') ∧ Kd.C k24 w' (some ⟨b, 0, none⟩) r.length r ∧ Below w.heap.size w w' := by
  unfold sortO at hr
  split at hr
  · rename_i hcond
    have HH := Aside0.mk hcond
    have HR := Aside0.mk hr
    have H := Aside0.mk (collect_seq Bs A c xs w hC hblk hBs hc (by omega))
    clear hC hblk hBs hc hr hcond
    go_enter Tryd.func48, Tryd.ntmps48
    go_wp2_with fail
    refine H.out.mono ?_
    rintro en w5 ⟨v, rfl, hR, hb⟩
    obtain ⟨b, c5, rfl, hge, hS⟩ := Srt_of_R hR HH.out.2
    have HS5 := Aside0.mk hS
    have HB5 := Aside0.mk hb
    have HGE := Aside0.mk hge
    clear hR hb hge hS
    go_wp2_with fail
    refine (sort_stable b c5 xs r w5 w5 HS5.out HH.out.1 HR.out).mono ?_
    rintro en w6 ⟨rfl, hS6, hL⟩
    have HS6 := Aside0.mk hS6
    have HL := Aside0.mk hL
    clear hS6 hL
    go_wp2
    go_ret
    rw [← HL.out]
    exact ⟨_, _, rfl, C_of_Srt HS6.out (by have := HH.out.1; have := HL.out; omega), ((Turns.of_below HB5.out (fun _ => False)).then_ HS6.out.turns (fun k hk => .inr (by rw [hk]; exact HGE.out))).toBelow (Nat.le_refl _) (fun _ h => h.elim)⟩
  · cases hr
end Go.Proofs.YtjankdoaobklgaaDoor.Q
end
section
namespace Go.Proofs.YtjankdoaobklgaaDoor.Q
open Go.RowKit Go.Proofs.YtjankdoaobklgaaDoorW.PrintWords
def strconv_FormatInt.f (a0 a1 : Int) : Option ByteArray := if a1 = 10 ∧ -9223372036854775808 ≤ a0 ∧ a0 ≤ 9223372036854775807 then some ⟨(Lib.itoa a0).toArray⟩ else none
theorem strconv_FormatInt.calls (a0 a1 : Int) (r : ByteArray) (w : World) (hG : Glob w) (h : strconv_FormatInt.f a0 a1 = some r) :
    Calls Tryd.prog 42 #[.int .i64 a0, .int .i64 a1] w fun e w' => e = .returned (.string r) ∧ Below w.heap.size w w' := by
  unfold strconv_FormatInt.f at h
  split at h
  · rename_i hc
    obtain ⟨rfl, h0, h1⟩ := hc
    obtain rfl := Option.some.inj h
    refine (Tryd.strconv_FormatInt_10 a0 h0 h1 w hG).mono ?_
    rintro e w' ⟨rfl, k, os, rfl⟩
    exact ⟨rfl, rfl, rfl, rfl, by simp [Sort.grow], fun i hi => by
      show (w.heap ++ os)[i]? = w.heap[i]?
      rw [Array.getElem?_append_left hi]⟩
  · cases h
end Go.Proofs.YtjankdoaobklgaaDoor.Q
end
section
namespace Go.Proofs.YtjankdoaobklgaaDoor.Q
open Go.RowKit Go.Proofs.YtjankdoaobklgaaDoorW.PrintWords Go.Proofs.YtjankdoaobklgaaDoorW.PrintLast Go.Proofs.YtjankdoaobklgaaDoorW.PrintMore
attribute [local go_sem] max2_int min2_int max_two min_two max_three min_three max_four min_four   -- for this text's walks alone
set_option linter.unusedVariables false
set_option linter.unusedSimpArgs false

/-! ### value_Text: function 20 -/
def value_Text.f (a0_0 : Int) (a0_1 : Int) (a0_2 : ByteArray) : Option (ByteArray) := if a0_0 = 1 then ((strconv_FormatInt.f a0_1 10).bind fun t131 => (some t131)) else (if a0_0 = 0 then (some (⟨#[]⟩ : ByteArray)) else (some a0_2))
set_option maxHeartbeats 8000000 in
set_option maxRecDepth 100000 in
theorem value_Text.calls (a0_0 : Int) (a0_1 : Int) (a0_2 : ByteArray) (r : ByteArray) (w : World) (hG : Glob w) (h : value_Text.f a0_0 a0_1 a0_2 = some r) :
    Calls Tryd.prog 20 #[.agg #[.int .u8 a0_0, .int .i64 a0_1, .string a0_2]] w fun e w' => e = .returned (.string r) ∧ Below w.heap.size w w' := by
  have hu24 := Tryd.underlying24
  have HG := Aside0.mk hG
  clear hG
  have HB := Aside0.mk (Below.refl w.heap.size w)
  have H : (if a0_0 = 1 then ((strconv_FormatInt.f a0_1 10).bind fun t131 => (some t131)) else (if a0_0 = 0 then (some (⟨#[]⟩ : ByteArray)) else (some a0_2))) = some r := h
  clear h
  by_cases c2 : a0_0 = 1
  · rw [if_pos c2] at H
    have c2b0 : (a0_0 == 1) = true := beq_iff_eq.mpr c2
    have c2b1 : (a0_0 != 1) = false := bne_eq_false_iff_eq.mpr c2
    clear c2
    replace H := Option.bind_eq_some_iff.mp H
    obtain ⟨t131, A30, H⟩ := H
    replace H : (some t131) = some r := H
    have A3 := Aside0.mk A30
    clear A30
    obtain rfl := Option.some.inj H
    simp only [Option.some.injEq, Prod.mk.injEq] at H
    obtain ⟨rfl⟩ := H
    go_enter Tryd.func20, Tryd.ntmps20
    go_wp2_with (first | ((with_reducible refine gate_dst (N := 1) rfl ?_); refine box_event ?hg (N := 1) ?hd (cs := #[.int .u8 a0_0, .int .i64 a0_1, .string a0_2]) (t := 24) ?hr ?_; (case hd => rfl); (case hg => rfl); (case hr => first | (go_simp; done) | (go_simp; rfl)); intro gb130 hg w4 hbox hb; have n0_ := Aside0.mk (below_step (by repeat (first | (with_reducible first | exact HB.out | apply below_alloc | apply pw_below_drewN | apply below_drew1) | exact HB.out)) hb); have n1_ := Aside0.mk (hbox); have n2_ := Aside0.mk ((by rw [hg]; exact (below_size (by repeat (first | (with_reducible first | exact HB.out | apply below_alloc | apply pw_below_drewN | apply below_drew1) | exact HB.out))) : w.heap.size ≤ gb130)); have n3_ := Aside0.mk ((by rw [hg]; exact (below_size (by repeat (first | (with_reducible first | exact HB.out | apply below_alloc | apply pw_below_drewN | apply below_drew1) | exact HB.out))) : w.heap.size ≤ gb130)); clear HB; have HB := n0_; have BK130 := n1_; have GW130 := n2_; have GE130 := n3_; clear n0_ n1_ n2_ n3_; clear hb hbox hg; have hcz5_0 : w4.cell? ⟨gb130, 0, none⟩ = some (.int .u8 a0_0) := (blk_cell BK130.out 0).trans rfl; have hcz5_1 : w4.cell? ⟨gb130, 1, none⟩ = some (.int .i64 a0_1) := (blk_cell BK130.out 1).trans rfl; have hcz5_2 : w4.cell? ⟨gb130, 2, none⟩ = some (.string a0_2) := (blk_cell BK130.out 2).trans rfl; have hfz5_0 := blk_frozen BK130.out 0; have hfz5_1 := blk_frozen BK130.out 1; have hfz5_2 := blk_frozen BK130.out 2) | ((with_reducible refine gate_callee (f := 42) rfl ?_); refine goesL_ (some 9) rfl rfl Tryd.func42 (by kernel_rfl) rfl #[.int .i64 a0_1, .int .i64 10] rfl (by (try simp only [List.map_toArray, List.map_cons, List.map_nil]); first | done | rfl | (simp only [List.length_drop, List.length_take]; rfl)) ?_; (with_reducible refine (strconv_FormatInt.calls a0_1 10 t131 _ ?side1 A3.out).mono ?_); (case side1 => exact Glob.below (by repeat (first | (with_reducible first | exact HB.out | apply below_alloc | apply pw_below_drewN | apply below_drew1 | refine below_set ?_ GE130.out) | exact HB.out)) HG.out); rintro e w6 ⟨rfl, hb⟩; refine ⟨_, rfl, ?_⟩; have n0_ := Aside0.mk (blk_below (g := gb130) (o := .cells #[.int .u8 a0_0, .int .i64 a0_1, .string a0_2] 24 (0, 0)) (by (with_reducible repeat (first | refine blk_drewN ?_ _ | refine blk_drew ?_ | refine blk_alloc ?_ _)); exact BK130.out) hb); have n1_ := Aside0.mk (below_step (by repeat (first | (with_reducible first | exact HB.out | apply below_alloc | apply pw_below_drewN | apply below_drew1 | refine below_set ?_ GE130.out) | exact HB.out)) hb); clear BK130; clear HB; have BK130 := n0_; have HB := n1_; clear n0_ n1_; (try clear hb); (try clear hb2); (try clear hk); (try clear hi)))
    go_ret
    exact ⟨by first | rfl | (simp [errW_none, errW_some] <;> rfl) | (simp [*, errW_none, errW_some] <;> rfl), by repeat (first | (with_reducible first | exact HB.out | apply below_alloc | apply pw_below_drewN | apply below_drew1 | refine below_set ?_ GE130.out) | exact HB.out)⟩
  · rw [if_neg c2] at H
    have c2b0 : (a0_0 == 1) = false := beq_eq_false_iff_ne.mpr c2
    have c2b1 : (a0_0 != 1) = true := bne_iff_ne.mpr c2
    by_cases c7 : a0_0 = 0
    · rw [if_pos c7] at H
      have c7b0 : (a0_0 == 0) = true := beq_iff_eq.mpr c7
      have c7b1 : (a0_0 != 0) = false := bne_eq_false_iff_eq.mpr c7
      clear c7
      obtain rfl := Option.some.inj H
      simp only [Option.some.injEq, Prod.mk.injEq] at H
      obtain ⟨rfl⟩ := H
      go_enter Tryd.func20, Tryd.ntmps20
      go_wp2_with (first | ((with_reducible refine gate_dst (N := 1) rfl ?_); refine box_event ?hg (N := 1) ?hd (cs := #[.int .u8 a0_0, .int .i64 a0_1, .string a0_2]) (t := 24) ?hr ?_; (case hd => rfl); (case hg => rfl); (case hr => first | (go_simp; done) | (go_simp; rfl)); intro gb130 hg w8 hbox hb; have n0_ := Aside0.mk (below_step (by repeat (first | (with_reducible first | exact HB.out | apply below_alloc | apply pw_below_drewN | apply below_drew1) | exact HB.out)) hb); have n1_ := Aside0.mk (hbox); have n2_ := Aside0.mk ((by rw [hg]; exact (below_size (by repeat (first | (with_reducible first | exact HB.out | apply below_alloc | apply pw_below_drewN | apply below_drew1) | exact HB.out))) : w.heap.size ≤ gb130)); have n3_ := Aside0.mk ((by rw [hg]; exact (below_size (by repeat (first | (with_reducible first | exact HB.out | apply below_alloc | apply pw_below_drewN | apply below_drew1) | exact HB.out))) : w.heap.size ≤ gb130)); clear HB; have HB := n0_; have BK130 := n1_; have GW130 := n2_; have GE130 := n3_; clear n0_ n1_ n2_ n3_; clear hb hbox hg; have hcz9_0 : w8.cell? ⟨gb130, 0, none⟩ = some (.int .u8 a0_0) := (blk_cell BK130.out 0).trans rfl; have hcz9_1 : w8.cell? ⟨gb130, 1, none⟩ = some (.int .i64 a0_1) := (blk_cell BK130.out 1).trans rfl; have hcz9_2 : w8.cell? ⟨gb130, 2, none⟩ = some (.string a0_2) := (blk_cell BK130.out 2).trans rfl; have hfz9_0 := blk_frozen BK130.out 0; have hfz9_1 := blk_frozen BK130.out 1; have hfz9_2 := blk_frozen BK130.out 2))
      go_ret
      exact ⟨by first | rfl | (simp [errW_none, errW_some] <;> rfl) | (simp [*, errW_none, errW_some] <;> rfl), by repeat (first | (with_reducible first | exact HB.out | apply below_alloc | apply pw_below_drewN | apply below_drew1 | refine below_set ?_ GE130.out) | exact HB.out)⟩
    · rw [if_neg c7] at H
      have c7b0 : (a0_0 == 0) = false := beq_eq_false_iff_ne.mpr c7
      have c7b1 : (a0_0 != 0) = true := bne_iff_ne.mpr c7
      obtain rfl := Option.some.inj H
      simp only [Option.some.injEq, Prod.mk.injEq] at H
      obtain ⟨rfl⟩ := H
      go_enter Tryd.func20, Tryd.ntmps20
      go_wp2_with (first | ((with_reducible refine gate_dst (N := 1) rfl ?_); refine box_event ?hg (N := 1) ?hd (cs := #[.int .u8 a0_0, .int .i64 a0_1, .string a0_2]) (t := 24) ?hr ?_; (case hd => rfl); (case hg => rfl); (case hr => first | (go_simp; done) | (go_simp; rfl)); intro gb130 hg w10 hbox hb; have n0_ := Aside0.mk (below_step (by repeat (first | (with_reducible first | exact HB.out | apply below_alloc | apply pw_below_drewN | apply below_drew1) | exact HB.out)) hb); have n1_ := Aside0.mk (hbox); have n2_ := Aside0.mk ((by rw [hg]; exact (below_size (by repeat (first | (with_reducible first | exact HB.out | apply below_alloc | apply pw_below_drewN | apply below_drew1) | exact HB.out))) : w.heap.size ≤ gb130)); have n3_ := Aside0.mk ((by rw [hg]; exact (below_size (by repeat (first | (with_reducible first | exact HB.out | apply below_alloc | apply pw_below_drewN | apply below_drew1) | exact HB.out))) : w.heap.size ≤ gb130)); clear HB; have HB := n0_; have BK130 := n1_; have GW130 := n2_; have GE130 := n3_; clear n0_ n1_ n2_ n3_; clear hb hbox hg; have hcz11_0 : w10.cell? ⟨gb130, 0, none⟩ = some (.int .u8 a0_0) := (blk_cell BK130.out 0).trans rfl; have hcz11_1 : w10.cell? ⟨gb130, 1, none⟩ = some (.int .i64 a0_1) := (blk_cell BK130.out 1).trans rfl; have hcz11_2 : w10.cell? ⟨gb130, 2, none⟩ = some (.string a0_2) := (blk_cell BK130.out 2).trans rfl; have hfz11_0 := blk_frozen BK130.out 0; have hfz11_1 := blk_frozen BK130.out 1; have hfz11_2 := blk_frozen BK130.out 2))
      go_ret
      exact ⟨by first | rfl | (simp [errW_none, errW_some] <;> rfl) | (simp [*, errW_none, errW_some] <;> rfl), by repeat (first | (with_reducible first | exact HB.out | apply below_alloc | apply pw_below_drewN | apply below_drew1 | refine below_set ?_ GE130.out) | exact HB.out)⟩

end Go.Proofs.YtjankdoaobklgaaDoor.Q
end
section
namespace Go.Proofs.YtjankdoaobklgaaDoor.Q
open Go.RowKit Go.Proofs.YtjankdoaobklgaaDoorW.PrintWords Go.Proofs.YtjankdoaobklgaaDoorW.PrintLast Go.Proofs.YtjankdoaobklgaaDoorW.PrintMore

/-- a value's text -/
def txtO (x : S24) : Option ByteArray := value_Text.f x.f0 x.f1 x.f2
def joined (out : List ByteArray) : ByteArray := ⟨(Lib.join (out.map (·.data.toList)) [44]).toArray⟩
/-- the texts, one behind the other; how long they are -/
def joinL : Int → List S24 → List ByteArray → Option (S24 × Int)
  | _, [], out => some (⟨2, 0, joined out⟩, 0)
  | long, x :: xs, out => (txtO x).bind fun s => if s.size ≤ 1000000 then (if 65536 < long + s.size then some (⟨0, 0, ⟨#[]⟩⟩, 3) else joinL (long + s.size) xs (out ++ [s])) else none
def joinS (l : List S24) : Option (S24 × Int) := (sortO l).bind fun r => if r.length = l.length then joinL ((l.length : Int) - 1) r [] else none

theorem joinTail_le (sep : List UInt8) (K : Nat) : ∀ r : List (List UInt8), (∀ x ∈ r, x.length ≤ K) → (Lib.joinTail sep r).length ≤ r.length * (sep.length + K)
  | [], _ => by simp [Lib.joinTail]
  | x :: r, h => by
    have ih := joinTail_le sep K r (fun y hy => h y (List.mem_cons_of_mem _ hy))
    have hx := h x List.mem_cons_self
    have e : Lib.joinTail sep (x :: r) = (sep ++ x) ++ Lib.joinTail sep r := by simp [Lib.joinTail]
    rw [e, List.length_append, List.length_append, List.length_cons, Nat.succ_mul]
    omega

theorem results_cell_row_tmp {fn : Func} {p u : Tmp} {ty : TypeId} {P : Program} (h : fn.results = #[.cell p ty, .tmp u]) (tmps : Array Value) (w : World) (g : Nat) (t : TypeId) (cs : Array Value) (d : _)
    (hp : tmps.getD p undef = .pointer (some ⟨g, 0, none⟩)) (hg : w.heap[g]? = some (.cells cs t (0, 0)))
    (hu : P.underlying ty = some (.struct d)) (hi : (P.info? ty).map (·.size) = some cs.size) :
    (results fn tmps).run P w = .ok (.tuple #[.agg cs, tmps.getD u undef]) w := by
  rw [results_cell_tmp h, hp]
  simp [asAddr, Result.andThen, run_loadVar_row w g t ty cs (0, 0) _ hg hu rfl hi]
theorem put3 {w : World} {g : Nat} {a b c : Value} (h : w.heap[g]? = some (.cells #[a, b, c] 24 (0, 0))) (x : S24) :
    (((w.setCell ⟨g, 0, none⟩ (.int .u8 x.f0)).setCell ⟨g, 1, none⟩ (.int .i64 x.f1)).setCell ⟨g, 2, none⟩ (.string x.f2)).heap[g]? = some (.cells (vcells x) 24 (0, 0)) :=
  blk_put (blk_put (blk_put h 0 (.int .u8 x.f0) rfl) 1 (.int .i64 x.f1) rfl) 2 (.string x.f2) (cs' := vcells x) rfl
theorem below3 {w0 w : World} {g : Nat} (h : Below w0.heap.size w0 w) (hg : w0.heap.size ≤ g) (x : S24) :
    Below w0.heap.size w0 (((w.setCell ⟨g, 0, none⟩ (.int .u8 x.f0)).setCell ⟨g, 1, none⟩ (.int .i64 x.f1)).setCell ⟨g, 2, none⟩ (.string x.f2)) :=
  ((((Turns.of_below h (fun _ => False)).setCell (p := ⟨g, 0, none⟩) (.inr hg) (.int .u8 x.f0)).setCell (p := ⟨g, 1, none⟩) (.inr hg) (.int .i64 x.f1)).setCell (p := ⟨g, 2, none⟩) (.inr hg) (.string x.f2)).toBelow (Nat.le_refl _) (fun _ h => h.elim)

set_option maxHeartbeats 8000000 in
set_option maxRecDepth 100000 in
theorem agg_join (g m B : Nat) (P : Nat → Prop) (s : AccS) (lv : Value) (D : DataW Unit) (r : S24 × Int) (w : World) (ha : IsAcc w B P g s lv m D) (hG : Glob w) (hj : joinS s.l = some r) :
    Calls Tryd.prog 26 #[.pointer (some ⟨g, 0, none⟩)] w fun e w' => e = .returned (.tuple #[.agg (vcells r.1), .int .i64 r.2]) ∧ Below w.heap.size w w' := by
  unfold joinS at hj
  obtain ⟨rs, hrs, hj⟩ := Option.bind_eq_some_iff.1 hj
  split at hj
  case isFalse => cases hj
  rename_i hlen
  obtain ⟨A0, c0, hlv⟩ := Kd.R_slice ha.row
  subst hlv
  obtain ⟨A1, c1, e1, _, hC⟩ := Kd.R_reads ha.row
  injection e1 with eA _ ec
  subst eA; subst ec
  have hl20 : s.l.length < 20 := by
    unfold sortO at hrs
    split at hrs
    · rename_i h; exact h.1
    · cases hrs
  have hblk : ∀ ad, A0 = some ad → ad.block < w.heap.size := fun ad e => by
    obtain ⟨_, _, hlt, _⟩ := (Kd.R_bound ha.row).1 ad.block (by rw [e]; rfl)
    exact hlt
  have HC := Aside0.mk hC
  have HBK := Aside0.mk hblk
  have HA := Aside0.mk ha
  have HG := Aside0.mk hG
  have HRS := Aside0.mk hrs
  have HJ := Aside0.mk hj
  have HLEN := Aside0.mk hlen
  have hc8 : ∀ o, (w.alloc o).cell? ⟨g, 8, none⟩ = some (.slice A0 s.l.length c0) := fun o => (blk_cell (blk_alloc ha.blk o) 8).trans rfl
  have hu1 := Tryd.underlying24
  clear hC hblk ha hG hrs hj
  go_enter Tryd.func26, Tryd.ntmps26
  go_wp2_with fail
  refine (values_fn A0 s.l.length c0 _).mono ?_
  rintro e w1 ⟨rfl, hw1⟩
  have HB1 := Aside0.mk (show Below w.heap.size w w1 by rw [hw1]; exact below_alloc (below_alloc (Below.refl _ _) _) _)
  have HZ1 := Aside0.mk (show w1.heap[w.heap.size]? = some (.cells #[.int .u8 0, .int .i64 0, .string ⟨#[]⟩] 24 (0, 0)) by rw [hw1]; exact blk_alloc (blk_new w _) _)
  have HS1 := Aside0.mk (show w1.heap[(w.alloc (.cells #[.int .u8 0, .int .i64 0, .string ⟨#[]⟩] 24)).heap.size]? = some (.cells #[.slice A0 s.l.length c0] 28 (0, 0)) by rw [hw1]; exact blk_new _ _)
  obtain ⟨Bs, hBs⟩ : ∃ Bs, Bs = (w.alloc (.cells #[.int .u8 0, .int .i64 0, .string ⟨#[]⟩] 24)).heap.size := ⟨_, rfl⟩
  rw [← hBs] at HS1
  rw [← hBs]
  clear hw1 hBs
  go_wp2_with fail
  refine (sorted_stable Bs A0 c0 s.l rs w1 (Kd.C_below HC.out HB1.out) (fun ad e => Nat.lt_of_lt_of_le (HBK.out ad e) HB1.out.size) (blk_lt HS1.out) ((blk_cell HS1.out 0).trans rfl) HRS.out).mono ?_
  rintro e w2 ⟨b, c2, rfl, hC2, hb2⟩
  have HC2 := Aside0.mk hC2
  have HB2 := Aside0.mk (below_step HB1.out hb2)
  have HZ2 := Aside0.mk (blk_below HZ1.out hb2)
  clear hC2 hb2
  go_wp2
  go_loopg [4, 5, 22] rs.length (fun kq v4 v5 v22 wr => ∃ (i : Nat) (long : Int) (out : List ByteArray), v4 = .int .i64 long ∧ v22 = .int .i64 (i : Int) ∧ Aside0 (i + kq = rs.length) ∧ Aside0 (joinL long (rs.drop i) out = some r) ∧ Aside0 (-1 ≤ long ∧ long ≤ 65536 ∧ out.length = i ∧ ∀ y ∈ out, y.size ≤ 1000000) ∧ Aside0 (Kd.R Kd.string 9 wr w2.heap.size (fun k => w2.heap.size ≤ k) v5 out) ∧ Aside0 (Below w2.heap.size w2 wr))
  case atStart => exact ⟨0, (s.l.length : Int) - 1, [], rfl, rfl, ⟨Nat.zero_add _⟩, HJ, ⟨by omega, by omega, rfl, fun y hy => by cases hy⟩, ⟨Kd.R_nil Kd.string 9 w2 _ _⟩, ⟨Below.refl _ _⟩⟩
  case round =>
    obtain ⟨i, long, out, rfl, rfl, HI, HX, HN, HR, HB⟩ := hrel
    obtain ⟨A5, c5, hv5⟩ := Kd.R_slice HR.out
    subst hv5
    have HZr := Aside0.mk (blk_below HZ2.out HB.out)
    have HBr := Aside0.mk (below_step HB2.out HB.out)
    by_cases hlt : i < rs.length
    · have hlt' : i < s.l.length := by rw [← HLEN.out]; exact hlt
      have hd : decide ((i : Int) < (s.l.length : Int)) = true := decide_eq_true (by omega)
      have p1 : 0 ≤ (i : Int) := by omega
      have q1 : (i : Int) < (rs.length : Int) := by omega
      obtain ⟨ad, e1, hx0, hx1, hx2⟩ := at_T24 HC2.out (i : Int) p1 q1
      obtain rfl := Option.some.inj e1
      replace hx0 := (HB.out.cell (World.block_lt_of_cell? w2 _ hx0)).trans hx0
      replace hx1 := (HB.out.cell (World.block_lt_of_cell? w2 _ hx1)).trans hx1
      replace hx2 := (HB.out.cell (World.block_lt_of_cell? w2 _ hx2)).trans hx2
      have HV := Aside0.mk (show rd_T24 rs (i : Int) = rs[i] by simp [rd_T24, List.getD_eq_getElem?_getD, List.getElem?_eq_getElem hlt])
      rw [HV.out, Int.toNat_natCast, add_plain] at hx0 hx1 hx2
      have hadd : (⟨b, 0, none⟩ : Addr).add (i * 3) = ⟨b, i * 3, none⟩ := add_plain b (i * 3)
      have hq1 := eq_true p1
      have hq2 := eq_true (show (i : Int) < (s.l.length : Int) by omega)
      have hrun := HX.out
      rw [List.drop_eq_getElem_cons hlt] at hrun
      unfold joinL at hrun
      obtain ⟨tx, htx, hrun⟩ := Option.bind_eq_some_iff.1 hrun
      split at hrun
      case isFalse => cases hrun
      rename_i hsz
      have HTX := Aside0.mk htx
      have HRUN := Aside0.mk hrun
      have hb1 : -1 ≤ long := HN.out.1
      have hb2 : long ≤ 65536 := HN.out.2.1
      have hsz' : (tx.size : Int) ≤ 1000000 := by omega
      have hsz0 : 0 ≤ (tx.size : Int) := by omega
      clear p1 q1 hrun htx
      go_wp2_with fail
      refine (value_Text.calls rs[i].f0 rs[i].f1 rs[i].f2 tx _ (Glob.below (below_alloc HBr.out _) HG.out) HTX.out).mono ?_
      rintro e w5 ⟨rfl, hb5⟩
      have HB5 := Aside0.mk (below_step (below_alloc (Below.refl wr.heap.size wr) _) hb5)
      clear hb5
      have HB25 := Aside0.mk (HB.out.trans (HB5.out.mono HB.out.size))
      have HZ5 := Aside0.mk (blk_below HZr.out HB5.out)
      have HR5 := Aside0.mk (Kd.R_below HR.out HB5.out)
      by_cases hbig : 65536 < long + tx.size
      · have hd3 : decide (65536 < long + (tx.size : Int)) = true := decide_eq_true hbig
        have hrun := HRUN.out
        rw [if_pos hbig] at hrun
        have HF := Aside0.mk (Option.some.inj hrun)
        clear hrun
        have hz5 := HZ5.out
        have hf0 := blk_frozen hz5 0
        have hf1 := blk_frozen hz5 1
        have hf2 := blk_frozen hz5 2
        have hd0 : w5.cell? ⟨w.heap.size, 0, none⟩ = some (.int .u8 0) := (blk_cell hz5 0).trans rfl
        have hd1 : w5.cell? ⟨w.heap.size, 1, none⟩ = some (.int .i64 0) := (blk_cell hz5 1).trans rfl
        have hd2 : w5.cell? ⟨w.heap.size, 2, none⟩ = some (.string ⟨#[]⟩) := (blk_cell hz5 2).trans rfl
        clear hz5
        go_wp2
        rw [← HF.out]
        (try simp only [Exit.inBlock, Exit.then])
        refine bodyPost_ret (results_cell_row_tmp rfl _ _ w.heap.size 24 _ _ rfl (put3 HZ5.out ⟨0, 0, ⟨#[]⟩⟩) Tryd.underlying24 (by kernel_rfl)) rfl ?_
        exact ⟨rfl, below3 (below_step HBr.out HB5.out) (Nat.le_refl _) ⟨0, 0, ⟨#[]⟩⟩⟩
      · have hd3 : decide (65536 < long + (tx.size : Int)) = false := decide_eq_false hbig
        have hbig' : long + (tx.size : Int) ≤ 65536 := by omega
        have hrun := HRUN.out
        rw [if_neg hbig] at hrun
        have HF := Aside0.mk hrun
        clear hrun
        obtain ⟨N1, hN1⟩ : ∃ N1, N1 = out ++ [tx] := ⟨_, rfl⟩
        have HN1 := Aside0.mk hN1
        clear hN1
        have HOL := Aside0.mk (show out.length < 20 by have := HN.out.2.2.1; omega)
        go_wp2_with (first | ((with_reducible refine gate_builtin (b := .append) (xs := #[.tmp 35, .tmp 37]) rfl ?_); at_builtin; refine Kd.R_append Kd.string (w0 := w2) w2.heap.size rfl (.tmp 35) (.tmp 37) 41 9 (.string ⟨#[]⟩) 16 rfl Tryd.underlying41 info9 rfl (by decide) (by omega) (.slice A5 out.length c5) out tx [.string tx] (fun k => w2.heap.size ≤ k) (fun _ => False) rfl rfl ?aP (fun _ hk => hk.elim) ?aF ?aO ?aB ?aS ?aL ?_; (case aP => exact rfl); (case aB => exact HB25.out); (case aF => exact (fun k hk => Nat.le_trans HB25.out.size hk)); (case aO => exact HR5.out); (case aS => exact HB25.out.size); (case aL => have := HOL.out; omega); intro v6 w6 ho hb hg hat; rw [← HN1.out] at ho; have HO6 := Aside0.mk ho; have HB6 := Aside0.mk hb; clear ho hb hg hat))
        go_roundg (gk - 1)
        case measure => have := HI.out; omega
        case rel => exact ⟨i + 1, long + tx.size, out ++ [tx], by go_num, by go_num, ⟨by have := HI.out; omega⟩, HF, ⟨by omega, by omega, by have := HN.out.2.2.1; simp; omega, fun y hy => (List.mem_append.1 hy).elim (HN.out.2.2.2 y) (fun h => by rw [List.mem_singleton.1 h]; exact hsz)⟩, ⟨by have := HO6.out; rw [HN1.out] at this; exact this⟩, HB6⟩
    · have hil : i = rs.length := by have := HI.out; omega
      have hd : decide ((i : Int) < (s.l.length : Int)) = false := decide_eq_false (by have := HLEN.out; omega)
      have hq : ¬ (i : Int) < (s.l.length : Int) := by have := HLEN.out; omega
      have hrun := HX.out
      rw [List.drop_eq_nil_of_le (by omega)] at hrun
      have HF := Aside0.mk (Option.some.inj hrun)
      clear hrun
      have hpos : 0 < out.length := by
        have h1 := HN.out.2.2.1
        have h2 := HLEN.out
        have h3 : s.l ≠ [] := by
          have h := HRS.out
          unfold sortO at h
          split at h
          · rename_i hc; exact hc.2
          · cases h
        have := List.length_pos_iff.2 h3
        omega
      obtain ⟨A6, c6, e6, _, hC6⟩ := Kd.R_reads HR.out
      injection e6 with eA6 _ ec6
      subst eA6; subst ec6
      obtain ⟨_, inner, ho, _⟩ := HR.out
      rcases ho.2 with ⟨_, hn⟩ | ⟨g6, cap6, cur6, hv6, _, hcur6, hle6, _⟩
      · omega
      injection hv6 with hA6 _ hcc6
      subst hA6; subst hcc6
      have HJ6 := Aside0.mk (Tryd.strings_Join g6 0 c5 out ⟨#[44]⟩ wr (fun j x hj => by
        obtain ⟨hjl, hjx⟩ := List.getElem?_eq_some_iff.1 hj
        obtain ⟨ad, e1, hx⟩ := Kd.at_string hC6 (j : Int) (by omega) (by omega)
        obtain rfl := Option.some.inj e1
        rw [Int.toNat_natCast, add_plain] at hx
        rw [Nat.zero_add]
        refine hx.trans ?_
        exact congrArg (fun u => some (Value.string u)) (show out.getD (j : Int).toNat ByteArray.empty = x by rw [Int.toNat_natCast, List.getD_eq_getElem?_getD, hj]; rfl)) (blk_lt hcur6) (by have := HN.out.2.2.1; have := HLEN.out; omega) hle6 (by
        have hK : ∀ x ∈ out.map (·.data.toList), x.length ≤ 1000000 := fun x hx => by
          obtain ⟨y, hy, rfl⟩ := List.mem_map.1 hx
          have := HN.out.2.2.2 y hy
          simpa using this
        have hln : (out.map (·.data.toList)).length < 20 := by rw [List.length_map]; have := HN.out.2.2.1; have := HLEN.out; omega
        generalize out.map (·.data.toList) = L at hK hln ⊢
        cases L with
        | nil => simp [Lib.join_nil]
        | cons x0 L =>
          rw [Lib.join_cons, List.length_append]
          have h1 := hK x0 List.mem_cons_self
          have h2 := joinTail_le (⟨#[44]⟩ : ByteArray).data.toList 1000000 L (fun y hy => hK y (List.mem_cons_of_mem _ hy))
          have h3 : (⟨#[44]⟩ : ByteArray).data.toList.length = 1 := rfl
          rw [h3] at h2
          rw [List.length_cons] at hln
          omega))
      have hz5 := HZr.out
      clear hz5 hC6 ho hcur6
      go_wp2_with fail
      refine HJ6.out.mono ?_
      rintro e w6 ⟨rfl, hb6⟩
      have HB6 := Aside0.mk (below_step HBr.out hb6)
      have hz6 := blk_below HZr.out hb6
      have HZ6 := Aside0.mk hz6
      have hf0 := blk_frozen hz6 0
      have hf1 := blk_frozen hz6 1
      have hf2 := blk_frozen hz6 2
      have hd0 : w6.cell? ⟨w.heap.size, 0, none⟩ = some (.int .u8 0) := (blk_cell hz6 0).trans rfl
      have hd1 : w6.cell? ⟨w.heap.size, 1, none⟩ = some (.int .i64 0) := (blk_cell hz6 1).trans rfl
      have hd2 : w6.cell? ⟨w.heap.size, 2, none⟩ = some (.string ⟨#[]⟩) := (blk_cell hz6 2).trans rfl
      clear hz6 hb6
      go_wp2
      rw [← HF.out]
      (try simp only [Exit.inBlock, Exit.then])
      refine bodyPost_ret (results_cell_row_tmp rfl _ _ w.heap.size 24 _ _ rfl (put3 HZ6.out ⟨2, 0, joined out⟩) Tryd.underlying24 (by kernel_rfl)) rfl ?_
      exact ⟨rfl, below3 HB6.out (Nat.le_refl _) ⟨2, 0, joined out⟩⟩
end Go.Proofs.YtjankdoaobklgaaDoor.Q
end
section
namespace Go.Proofs.YtjankdoaobklgaaDoor.Q
open Go.RowKit Go.Proofs.YtjankdoaobklgaaDoorW.PrintWords Go.Proofs.YtjankdoaobklgaaDoorW.PrintLast Go.Proofs.YtjankdoaobklgaaDoorW.PrintMore

abbrev zeroV : S24 := ⟨0, 0, ⟨#[]⟩⟩
/-- does a sum fit? -/
def sumV (s : AccS) : S24 × Int :=
  if s.hi = IntKind.u64.wrap (wrap64 s.lo / 9223372036854775808) then (⟨1, wrap64 s.lo, ⟨#[]⟩⟩, 0) else (zeroV, 20)
/-- what it comes to -/
def finS (s : AccS) : Option (S24 × Int) :=
  if s.name = nmCount then some (⟨1, s.n, ⟨#[]⟩⟩, 0) else if s.name = nmStar then some (⟨1, s.n, ⟨#[]⟩⟩, 0)
  else if s.name = nmMin then some (s.best, 0) else if s.name = nmMax then some (s.best, 0)
  else if s.name = nmTotal then some (sumV s)
  else if s.n = 0 then some (zeroV, 0)
  else if s.name = nmConcat then joinS s.l else some (sumV s)

set_option maxHeartbeats 8000000 in
set_option maxRecDepth 100000 in
theorem final_Count (g m B : Nat) (P : Nat → Prop) (s : AccS) (lv : Value) (D : DataW Unit) (w : World) (ha : IsAcc w B P g s lv m D) (hm : s.name = nmCount) :
    Calls Tryd.prog 10 #[.pointer (some ⟨g, 0, none⟩)] w fun e w' => e = .returned (.tuple #[.agg (vcells ⟨1, s.n, ⟨#[]⟩⟩), .int .i64 0]) ∧ Below w.heap.size w w' := by
  have tq : (s.name.toList == []) = false := by rw [hm]; kernel_rfl
  have tq0 : (s.name.toList == [99, 111, 117, 110, 116]) = true := by rw [hm]; kernel_rfl
  have tq1 : (s.name.toList == [99, 111, 117, 110, 116, 42]) = false := by rw [hm]; kernel_rfl
  have tq2 : (s.name.toList == [115, 117, 109]) = false := by rw [hm]; kernel_rfl
  have tq3 : (s.name.toList == [116, 111, 116, 97, 108]) = false := by rw [hm]; kernel_rfl
  have tq4 : (s.name.toList == [109, 105, 110]) = false := by rw [hm]; kernel_rfl
  have tq5 : (s.name.toList == [109, 97, 120]) = false := by rw [hm]; kernel_rfl
  have tq6 : (s.name.toList == [103, 114, 111, 117, 112, 95, 99, 111, 110, 99, 97, 116]) = false := by rw [hm]; kernel_rfl
  have HA := Aside0.mk ha
  have hc0 : ∀ o, (w.alloc o).cell? ⟨g, 0, none⟩ = some (.string s.name) := fun o => (blk_cell (blk_alloc ha.blk o) 0).trans rfl
  have hc2 : ∀ o, (w.alloc o).cell? ⟨g, 2, none⟩ = some (.int .i64 s.n) := fun o => (blk_cell (blk_alloc ha.blk o) 2).trans rfl
  have hc3 : ∀ o, (w.alloc o).cell? ⟨g, 3, none⟩ = some (.int .u64 s.hi) := fun o => (blk_cell (blk_alloc ha.blk o) 3).trans rfl
  have hc4 : ∀ o, (w.alloc o).cell? ⟨g, 4, none⟩ = some (.int .u64 s.lo) := fun o => (blk_cell (blk_alloc ha.blk o) 4).trans rfl
  have hc5 : ∀ o, (w.alloc o).cell? ⟨g, 5, none⟩ = some (.int .u8 s.best.f0) := fun o => (blk_cell (blk_alloc ha.blk o) 5).trans rfl
  have hc6 : ∀ o, (w.alloc o).cell? ⟨g, 6, none⟩ = some (.int .i64 s.best.f1) := fun o => (blk_cell (blk_alloc ha.blk o) 6).trans rfl
  have hc7 : ∀ o, (w.alloc o).cell? ⟨g, 7, none⟩ = some (.string s.best.f2) := fun o => (blk_cell (blk_alloc ha.blk o) 7).trans rfl
  have hu1 := Tryd.underlying24
  clear ha hm
  go_enter Tryd.func10, Tryd.ntmps10
  go_wp2
  (try simp only [Exit.inBlock, Exit.then])
  refine bodyPost_ret (results_cell_row_tmp rfl _ _ w.heap.size 24 _ _ rfl (blk_new w _) Tryd.underlying24 (by kernel_rfl)) rfl ?_
  exact ⟨rfl, below_alloc (Below.refl _ _) _⟩

set_option maxHeartbeats 8000000 in
set_option maxRecDepth 100000 in
theorem final_Star (g m B : Nat) (P : Nat → Prop) (s : AccS) (lv : Value) (D : DataW Unit) (w : World) (ha : IsAcc w B P g s lv m D) (hm : s.name = nmStar) :
    Calls Tryd.prog 10 #[.pointer (some ⟨g, 0, none⟩)] w fun e w' => e = .returned (.tuple #[.agg (vcells ⟨1, s.n, ⟨#[]⟩⟩), .int .i64 0]) ∧ Below w.heap.size w w' := by
  have tq : (s.name.toList == []) = false := by rw [hm]; kernel_rfl
  have tq0 : (s.name.toList == [99, 111, 117, 110, 116]) = false := by rw [hm]; kernel_rfl
  have tq1 : (s.name.toList == [99, 111, 117, 110, 116, 42]) = true := by rw [hm]; kernel_rfl
  have tq2 : (s.name.toList == [115, 117, 109]) = false := by rw [hm]; kernel_rfl
  have tq3 : (s.name.toList == [116, 111, 116, 97, 108]) = false := by rw [hm]; kernel_rfl
  have tq4 : (s.name.toList == [109, 105, 110]) = false := by rw [hm]; kernel_rfl
  have tq5 : (s.name.toList == [109, 97, 120]) = false := by rw [hm]; kernel_rfl
  have tq6 : (s.name.toList == [103, 114, 111, 117, 112, 95, 99, 111, 110, 99, 97, 116]) = false := by rw [hm]; kernel_rfl
  have HA := Aside0.mk ha
  have hc0 : ∀ o, (w.alloc o).cell? ⟨g, 0, none⟩ = some (.string s.name) := fun o => (blk_cell (blk_alloc ha.blk o) 0).trans rfl
  have hc2 : ∀ o, (w.alloc o).cell? ⟨g, 2, none⟩ = some (.int .i64 s.n) := fun o => (blk_cell (blk_alloc ha.blk o) 2).trans rfl
  have hc3 : ∀ o, (w.alloc o).cell? ⟨g, 3, none⟩ = some (.int .u64 s.hi) := fun o => (blk_cell (blk_alloc ha.blk o) 3).trans rfl
  have hc4 : ∀ o, (w.alloc o).cell? ⟨g, 4, none⟩ = some (.int .u64 s.lo) := fun o => (blk_cell (blk_alloc ha.blk o) 4).trans rfl
  have hc5 : ∀ o, (w.alloc o).cell? ⟨g, 5, none⟩ = some (.int .u8 s.best.f0) := fun o => (blk_cell (blk_alloc ha.blk o) 5).trans rfl
  have hc6 : ∀ o, (w.alloc o).cell? ⟨g, 6, none⟩ = some (.int .i64 s.best.f1) := fun o => (blk_cell (blk_alloc ha.blk o) 6).trans rfl
  have hc7 : ∀ o, (w.alloc o).cell? ⟨g, 7, none⟩ = some (.string s.best.f2) := fun o => (blk_cell (blk_alloc ha.blk o) 7).trans rfl
  have hu1 := Tryd.underlying24
  clear ha hm
  go_enter Tryd.func10, Tryd.ntmps10
  go_wp2
  (try simp only [Exit.inBlock, Exit.then])
  refine bodyPost_ret (results_cell_row_tmp rfl _ _ w.heap.size 24 _ _ rfl (blk_new w _) Tryd.underlying24 (by kernel_rfl)) rfl ?_
  exact ⟨rfl, below_alloc (Below.refl _ _) _⟩

set_option maxHeartbeats 8000000 in
set_option maxRecDepth 100000 in
theorem final_Min (g m B : Nat) (P : Nat → Prop) (s : AccS) (lv : Value) (D : DataW Unit) (w : World) (ha : IsAcc w B P g s lv m D) (hm : s.name = nmMin) :
    Calls Tryd.prog 10 #[.pointer (some ⟨g, 0, none⟩)] w fun e w' => e = .returned (.tuple #[.agg (vcells s.best), .int .i64 0]) ∧ Below w.heap.size w w' := by
  have tq : (s.name.toList == []) = false := by rw [hm]; kernel_rfl
  have tq0 : (s.name.toList == [99, 111, 117, 110, 116]) = false := by rw [hm]; kernel_rfl
  have tq1 : (s.name.toList == [99, 111, 117, 110, 116, 42]) = false := by rw [hm]; kernel_rfl
  have tq2 : (s.name.toList == [115, 117, 109]) = false := by rw [hm]; kernel_rfl
  have tq3 : (s.name.toList == [116, 111, 116, 97, 108]) = false := by rw [hm]; kernel_rfl
  have tq4 : (s.name.toList == [109, 105, 110]) = true := by rw [hm]; kernel_rfl
  have tq5 : (s.name.toList == [109, 97, 120]) = false := by rw [hm]; kernel_rfl
  have tq6 : (s.name.toList == [103, 114, 111, 117, 112, 95, 99, 111, 110, 99, 97, 116]) = false := by rw [hm]; kernel_rfl
  have HA := Aside0.mk ha
  have hc0 : ∀ o, (w.alloc o).cell? ⟨g, 0, none⟩ = some (.string s.name) := fun o => (blk_cell (blk_alloc ha.blk o) 0).trans rfl
  have hc2 : ∀ o, (w.alloc o).cell? ⟨g, 2, none⟩ = some (.int .i64 s.n) := fun o => (blk_cell (blk_alloc ha.blk o) 2).trans rfl
  have hc3 : ∀ o, (w.alloc o).cell? ⟨g, 3, none⟩ = some (.int .u64 s.hi) := fun o => (blk_cell (blk_alloc ha.blk o) 3).trans rfl
  have hc4 : ∀ o, (w.alloc o).cell? ⟨g, 4, none⟩ = some (.int .u64 s.lo) := fun o => (blk_cell (blk_alloc ha.blk o) 4).trans rfl
  have hc5 : ∀ o, (w.alloc o).cell? ⟨g, 5, none⟩ = some (.int .u8 s.best.f0) := fun o => (blk_cell (blk_alloc ha.blk o) 5).trans rfl
  have hc6 : ∀ o, (w.alloc o).cell? ⟨g, 6, none⟩ = some (.int .i64 s.best.f1) := fun o => (blk_cell (blk_alloc ha.blk o) 6).trans rfl
  have hc7 : ∀ o, (w.alloc o).cell? ⟨g, 7, none⟩ = some (.string s.best.f2) := fun o => (blk_cell (blk_alloc ha.blk o) 7).trans rfl
  have hu1 := Tryd.underlying24
  clear ha hm
  go_enter Tryd.func10, Tryd.ntmps10
  go_wp2
  (try simp only [Exit.inBlock, Exit.then])
  refine bodyPost_ret (results_cell_row_tmp rfl _ _ w.heap.size 24 _ _ rfl (blk_new w _) Tryd.underlying24 (by kernel_rfl)) rfl ?_
  exact ⟨rfl, below_alloc (Below.refl _ _) _⟩

set_option maxHeartbeats 8000000 in
set_option maxRecDepth 100000 in
theorem final_Max (g m B : Nat) (P : Nat → Prop) (s : AccS) (lv : Value) (D : DataW Unit) (w : World) (ha : IsAcc w B P g s lv m D) (hm : s.name = nmMax) :
    Calls Tryd.prog 10 #[.pointer (some ⟨g, 0, none⟩)] w fun e w' => e = .returned (.tuple #[.agg (vcells s.best), .int .i64 0]) ∧ Below w.heap.size w w' := by
  have tq : (s.name.toList == []) = false := by rw [hm]; kernel_rfl
  have tq0 : (s.name.toList == [99, 111, 117, 110, 116]) = false := by rw [hm]; kernel_rfl
  have tq1 : (s.name.toList == [99, 111, 117, 110, 116, 42]) = false := by rw [hm]; kernel_rfl
  have tq2 : (s.name.toList == [115, 117, 109]) = false := by rw [hm]; kernel_rfl
  have tq3 : (s.name.toList == [116, 111, 116, 97, 108]) = false := by rw [hm]; kernel_rfl
  have tq4 : (s.name.toList == [109, 105, 110]) = false := by rw [hm]; kernel_rfl
  have tq5 : (s.name.toList == [109, 97, 120]) = true := by rw [hm]; kernel_rfl
  have tq6 : (s.name.toList == [103, 114, 111, 117, 112, 95, 99, 111, 110, 99, 97, 116]) = false := by rw [hm]; kernel_rfl
  have HA := Aside0.mk ha
  have hc0 : ∀ o, (w.alloc o).cell? ⟨g, 0, none⟩ = some (.string s.name) := fun o => (blk_cell (blk_alloc ha.blk o) 0).trans rfl
  have hc2 : ∀ o, (w.alloc o).cell? ⟨g, 2, none⟩ = some (.int .i64 s.n) := fun o => (blk_cell (blk_alloc ha.blk o) 2).trans rfl
  have hc3 : ∀ o, (w.alloc o).cell? ⟨g, 3, none⟩ = some (.int .u64 s.hi) := fun o => (blk_cell (blk_alloc ha.blk o) 3).trans rfl
  have hc4 : ∀ o, (w.alloc o).cell? ⟨g, 4, none⟩ = some (.int .u64 s.lo) := fun o => (blk_cell (blk_alloc ha.blk o) 4).trans rfl
  have hc5 : ∀ o, (w.alloc o).cell? ⟨g, 5, none⟩ = some (.int .u8 s.best.f0) := fun o => (blk_cell (blk_alloc ha.blk o) 5).trans rfl
  have hc6 : ∀ o, (w.alloc o).cell? ⟨g, 6, none⟩ = some (.int .i64 s.best.f1) := fun o => (blk_cell (blk_alloc ha.blk o) 6).trans rfl
  have hc7 : ∀ o, (w.alloc o).cell? ⟨g, 7, none⟩ = some (.string s.best.f2) := fun o => (blk_cell (blk_alloc ha.blk o) 7).trans rfl
  have hu1 := Tryd.underlying24
  clear ha hm
  go_enter Tryd.func10, Tryd.ntmps10
  go_wp2
  (try simp only [Exit.inBlock, Exit.then])
  refine bodyPost_ret (results_cell_row_tmp rfl _ _ w.heap.size 24 _ _ rfl (blk_new w _) Tryd.underlying24 (by kernel_rfl)) rfl ?_
  exact ⟨rfl, below_alloc (Below.refl _ _) _⟩

set_option maxHeartbeats 8000000 in
set_option maxRecDepth 100000 in
theorem final_Total (g m B : Nat) (P : Nat → Prop) (s : AccS) (lv : Value) (D : DataW Unit) (w : World) (ha : IsAcc w B P g s lv m D) (hm : s.name = nmTotal) (hf : s.hi = IntKind.u64.wrap (wrap64 s.lo / 9223372036854775808)) :
    Calls Tryd.prog 10 #[.pointer (some ⟨g, 0, none⟩)] w fun e w' => e = .returned (.tuple #[.agg (vcells ⟨1, wrap64 s.lo, ⟨#[]⟩⟩), .int .i64 0]) ∧ Below w.heap.size w w' := by
  have tq : (s.name.toList == []) = false := by rw [hm]; kernel_rfl
  have tq0 : (s.name.toList == [99, 111, 117, 110, 116]) = false := by rw [hm]; kernel_rfl
  have tq1 : (s.name.toList == [99, 111, 117, 110, 116, 42]) = false := by rw [hm]; kernel_rfl
  have tq2 : (s.name.toList == [115, 117, 109]) = false := by rw [hm]; kernel_rfl
  have tq3 : (s.name.toList == [116, 111, 116, 97, 108]) = true := by rw [hm]; kernel_rfl
  have tq4 : (s.name.toList == [109, 105, 110]) = false := by rw [hm]; kernel_rfl
  have tq5 : (s.name.toList == [109, 97, 120]) = false := by rw [hm]; kernel_rfl
  have tq6 : (s.name.toList == [103, 114, 111, 117, 112, 95, 99, 111, 110, 99, 97, 116]) = false := by rw [hm]; kernel_rfl
  have hf' : (s.hi != IntKind.u64.wrap (wrap64 s.lo / 9223372036854775808)) = false := by simpa using hf
  have HA := Aside0.mk ha
  have hc0 : ∀ o, (w.alloc o).cell? ⟨g, 0, none⟩ = some (.string s.name) := fun o => (blk_cell (blk_alloc ha.blk o) 0).trans rfl
  have hc2 : ∀ o, (w.alloc o).cell? ⟨g, 2, none⟩ = some (.int .i64 s.n) := fun o => (blk_cell (blk_alloc ha.blk o) 2).trans rfl
  have hc3 : ∀ o, (w.alloc o).cell? ⟨g, 3, none⟩ = some (.int .u64 s.hi) := fun o => (blk_cell (blk_alloc ha.blk o) 3).trans rfl
  have hc4 : ∀ o, (w.alloc o).cell? ⟨g, 4, none⟩ = some (.int .u64 s.lo) := fun o => (blk_cell (blk_alloc ha.blk o) 4).trans rfl
  have hc5 : ∀ o, (w.alloc o).cell? ⟨g, 5, none⟩ = some (.int .u8 s.best.f0) := fun o => (blk_cell (blk_alloc ha.blk o) 5).trans rfl
  have hc6 : ∀ o, (w.alloc o).cell? ⟨g, 6, none⟩ = some (.int .i64 s.best.f1) := fun o => (blk_cell (blk_alloc ha.blk o) 6).trans rfl
  have hc7 : ∀ o, (w.alloc o).cell? ⟨g, 7, none⟩ = some (.string s.best.f2) := fun o => (blk_cell (blk_alloc ha.blk o) 7).trans rfl
  have hu1 := Tryd.underlying24
  clear ha hm hf
  go_enter Tryd.func10, Tryd.ntmps10
  go_wp2
  (try simp only [Exit.inBlock, Exit.then])
  refine bodyPost_ret (results_cell_row_tmp rfl _ _ w.heap.size 24 _ _ rfl (blk_new w _) Tryd.underlying24 (by kernel_rfl)) rfl ?_
  exact ⟨rfl, below_alloc (Below.refl _ _) _⟩

set_option maxHeartbeats 8000000 in
set_option maxRecDepth 100000 in
theorem final_TotalX (g m B : Nat) (P : Nat → Prop) (s : AccS) (lv : Value) (D : DataW Unit) (w : World) (ha : IsAcc w B P g s lv m D) (hm : s.name = nmTotal) (hf : ¬ s.hi = IntKind.u64.wrap (wrap64 s.lo / 9223372036854775808)) :
    Calls Tryd.prog 10 #[.pointer (some ⟨g, 0, none⟩)] w fun e w' => e = .returned (.tuple #[.agg (vcells zeroV), .int .i64 20]) ∧ Below w.heap.size w w' := by
  have tq : (s.name.toList == []) = false := by rw [hm]; kernel_rfl
  have tq0 : (s.name.toList == [99, 111, 117, 110, 116]) = false := by rw [hm]; kernel_rfl
  have tq1 : (s.name.toList == [99, 111, 117, 110, 116, 42]) = false := by rw [hm]; kernel_rfl
  have tq2 : (s.name.toList == [115, 117, 109]) = false := by rw [hm]; kernel_rfl
  have tq3 : (s.name.toList == [116, 111, 116, 97, 108]) = true := by rw [hm]; kernel_rfl
  have tq4 : (s.name.toList == [109, 105, 110]) = false := by rw [hm]; kernel_rfl
  have tq5 : (s.name.toList == [109, 97, 120]) = false := by rw [hm]; kernel_rfl
  have tq6 : (s.name.toList == [103, 114, 111, 117, 112, 95, 99, 111, 110, 99, 97, 116]) = false := by rw [hm]; kernel_rfl
  have hf' : (s.hi != IntKind.u64.wrap (wrap64 s.lo / 9223372036854775808)) = true := by simpa using hf
  have HA := Aside0.mk ha
  have hc0 : ∀ o, (w.alloc o).cell? ⟨g, 0, none⟩ = some (.string s.name) := fun o => (blk_cell (blk_alloc ha.blk o) 0).trans rfl
  have hc2 : ∀ o, (w.alloc o).cell? ⟨g, 2, none⟩ = some (.int .i64 s.n) := fun o => (blk_cell (blk_alloc ha.blk o) 2).trans rfl
  have hc3 : ∀ o, (w.alloc o).cell? ⟨g, 3, none⟩ = some (.int .u64 s.hi) := fun o => (blk_cell (blk_alloc ha.blk o) 3).trans rfl
  have hc4 : ∀ o, (w.alloc o).cell? ⟨g, 4, none⟩ = some (.int .u64 s.lo) := fun o => (blk_cell (blk_alloc ha.blk o) 4).trans rfl
  have hc5 : ∀ o, (w.alloc o).cell? ⟨g, 5, none⟩ = some (.int .u8 s.best.f0) := fun o => (blk_cell (blk_alloc ha.blk o) 5).trans rfl
  have hc6 : ∀ o, (w.alloc o).cell? ⟨g, 6, none⟩ = some (.int .i64 s.best.f1) := fun o => (blk_cell (blk_alloc ha.blk o) 6).trans rfl
  have hc7 : ∀ o, (w.alloc o).cell? ⟨g, 7, none⟩ = some (.string s.best.f2) := fun o => (blk_cell (blk_alloc ha.blk o) 7).trans rfl
  have hu1 := Tryd.underlying24
  clear ha hm hf
  go_enter Tryd.func10, Tryd.ntmps10
  go_wp2
  (try simp only [Exit.inBlock, Exit.then])
  refine bodyPost_ret (results_cell_row_tmp rfl _ _ w.heap.size 24 _ _ rfl (blk_new w _) Tryd.underlying24 (by kernel_rfl)) rfl ?_
  exact ⟨rfl, below_alloc (Below.refl _ _) _⟩

set_option maxHeartbeats 8000000 in
set_option maxRecDepth 100000 in
theorem final_Sum (g m B : Nat) (P : Nat → Prop) (s : AccS) (lv : Value) (D : DataW Unit) (w : World) (ha : IsAcc w B P g s lv m D) (hm : s.name = nmSum) (h0 : s.n ≠ 0) (hf : s.hi = IntKind.u64.wrap (wrap64 s.lo / 9223372036854775808)) :
    Calls Tryd.prog 10 #[.pointer (some ⟨g, 0, none⟩)] w fun e w' => e = .returned (.tuple #[.agg (vcells ⟨1, wrap64 s.lo, ⟨#[]⟩⟩), .int .i64 0]) ∧ Below w.heap.size w w' := by
  have tq : (s.name.toList == []) = false := by rw [hm]; kernel_rfl
  have tq0 : (s.name.toList == [99, 111, 117, 110, 116]) = false := by rw [hm]; kernel_rfl
  have tq1 : (s.name.toList == [99, 111, 117, 110, 116, 42]) = false := by rw [hm]; kernel_rfl
  have tq2 : (s.name.toList == [115, 117, 109]) = true := by rw [hm]; kernel_rfl
  have tq3 : (s.name.toList == [116, 111, 116, 97, 108]) = false := by rw [hm]; kernel_rfl
  have tq4 : (s.name.toList == [109, 105, 110]) = false := by rw [hm]; kernel_rfl
  have tq5 : (s.name.toList == [109, 97, 120]) = false := by rw [hm]; kernel_rfl
  have tq6 : (s.name.toList == [103, 114, 111, 117, 112, 95, 99, 111, 110, 99, 97, 116]) = false := by rw [hm]; kernel_rfl
  have hn0 : (s.n == 0) = false := by simpa using h0
  have hn0' : decide (s.n = 0) = false := decide_eq_false h0
  have hf' : (s.hi != IntKind.u64.wrap (wrap64 s.lo / 9223372036854775808)) = false := by simpa using hf
  have HA := Aside0.mk ha
  have hc0 : ∀ o, (w.alloc o).cell? ⟨g, 0, none⟩ = some (.string s.name) := fun o => (blk_cell (blk_alloc ha.blk o) 0).trans rfl
  have hc2 : ∀ o, (w.alloc o).cell? ⟨g, 2, none⟩ = some (.int .i64 s.n) := fun o => (blk_cell (blk_alloc ha.blk o) 2).trans rfl
  have hc3 : ∀ o, (w.alloc o).cell? ⟨g, 3, none⟩ = some (.int .u64 s.hi) := fun o => (blk_cell (blk_alloc ha.blk o) 3).trans rfl
  have hc4 : ∀ o, (w.alloc o).cell? ⟨g, 4, none⟩ = some (.int .u64 s.lo) := fun o => (blk_cell (blk_alloc ha.blk o) 4).trans rfl
  have hc5 : ∀ o, (w.alloc o).cell? ⟨g, 5, none⟩ = some (.int .u8 s.best.f0) := fun o => (blk_cell (blk_alloc ha.blk o) 5).trans rfl
  have hc6 : ∀ o, (w.alloc o).cell? ⟨g, 6, none⟩ = some (.int .i64 s.best.f1) := fun o => (blk_cell (blk_alloc ha.blk o) 6).trans rfl
  have hc7 : ∀ o, (w.alloc o).cell? ⟨g, 7, none⟩ = some (.string s.best.f2) := fun o => (blk_cell (blk_alloc ha.blk o) 7).trans rfl
  have hu1 := Tryd.underlying24
  clear ha hm h0 hf
  go_enter Tryd.func10, Tryd.ntmps10
  go_wp2
  (try simp only [Exit.inBlock, Exit.then])
  refine bodyPost_ret (results_cell_row_tmp rfl _ _ w.heap.size 24 _ _ rfl (blk_new w _) Tryd.underlying24 (by kernel_rfl)) rfl ?_
  exact ⟨rfl, below_alloc (Below.refl _ _) _⟩

set_option maxHeartbeats 8000000 in
set_option maxRecDepth 100000 in
theorem final_SumX (g m B : Nat) (P : Nat → Prop) (s : AccS) (lv : Value) (D : DataW Unit) (w : World) (ha : IsAcc w B P g s lv m D) (hm : s.name = nmSum) (h0 : s.n ≠ 0) (hf : ¬ s.hi = IntKind.u64.wrap (wrap64 s.lo / 9223372036854775808)) :
    Calls Tryd.prog 10 #[.pointer (some ⟨g, 0, none⟩)] w fun e w' => e = .returned (.tuple #[.agg (vcells zeroV), .int .i64 20]) ∧ Below w.heap.size w w' := by
  have tq : (s.name.toList == []) = false := by rw [hm]; kernel_rfl
  have tq0 : (s.name.toList == [99, 111, 117, 110, 116]) = false := by rw [hm]; kernel_rfl
  have tq1 : (s.name.toList == [99, 111, 117, 110, 116, 42]) = false := by rw [hm]; kernel_rfl
  have tq2 : (s.name.toList == [115, 117, 109]) = true := by rw [hm]; kernel_rfl
  have tq3 : (s.name.toList == [116, 111, 116, 97, 108]) = false := by rw [hm]; kernel_rfl
  have tq4 : (s.name.toList == [109, 105, 110]) = false := by rw [hm]; kernel_rfl
  have tq5 : (s.name.toList == [109, 97, 120]) = false := by rw [hm]; kernel_rfl
  have tq6 : (s.name.toList == [103, 114, 111, 117, 112, 95, 99, 111, 110, 99, 97, 116]) = false := by rw [hm]; kernel_rfl
  have hn0 : (s.n == 0) = false := by simpa using h0
  have hn0' : decide (s.n = 0) = false := decide_eq_false h0
  have hf' : (s.hi != IntKind.u64.wrap (wrap64 s.lo / 9223372036854775808)) = true := by simpa using hf
  have HA := Aside0.mk ha
  have hc0 : ∀ o, (w.alloc o).cell? ⟨g, 0, none⟩ = some (.string s.name) := fun o => (blk_cell (blk_alloc ha.blk o) 0).trans rfl
  have hc2 : ∀ o, (w.alloc o).cell? ⟨g, 2, none⟩ = some (.int .i64 s.n) := fun o => (blk_cell (blk_alloc ha.blk o) 2).trans rfl
  have hc3 : ∀ o, (w.alloc o).cell? ⟨g, 3, none⟩ = some (.int .u64 s.hi) := fun o => (blk_cell (blk_alloc ha.blk o) 3).trans rfl
  have hc4 : ∀ o, (w.alloc o).cell? ⟨g, 4, none⟩ = some (.int .u64 s.lo) := fun o => (blk_cell (blk_alloc ha.blk o) 4).trans rfl
  have hc5 : ∀ o, (w.alloc o).cell? ⟨g, 5, none⟩ = some (.int .u8 s.best.f0) := fun o => (blk_cell (blk_alloc ha.blk o) 5).trans rfl
  have hc6 : ∀ o, (w.alloc o).cell? ⟨g, 6, none⟩ = some (.int .i64 s.best.f1) := fun o => (blk_cell (blk_alloc ha.blk o) 6).trans rfl
  have hc7 : ∀ o, (w.alloc o).cell? ⟨g, 7, none⟩ = some (.string s.best.f2) := fun o => (blk_cell (blk_alloc ha.blk o) 7).trans rfl
  have hu1 := Tryd.underlying24
  clear ha hm h0 hf
  go_enter Tryd.func10, Tryd.ntmps10
  go_wp2
  (try simp only [Exit.inBlock, Exit.then])
  refine bodyPost_ret (results_cell_row_tmp rfl _ _ w.heap.size 24 _ _ rfl (blk_new w _) Tryd.underlying24 (by kernel_rfl)) rfl ?_
  exact ⟨rfl, below_alloc (Below.refl _ _) _⟩

set_option maxHeartbeats 8000000 in
set_option maxRecDepth 100000 in
theorem final_Sum0 (g m B : Nat) (P : Nat → Prop) (s : AccS) (lv : Value) (D : DataW Unit) (w : World) (ha : IsAcc w B P g s lv m D) (hm : s.name = nmSum) (h0 : s.n = 0) :
    Calls Tryd.prog 10 #[.pointer (some ⟨g, 0, none⟩)] w fun e w' => e = .returned (.tuple #[.agg (vcells zeroV), .int .i64 0]) ∧ Below w.heap.size w w' := by
  have tq : (s.name.toList == []) = false := by rw [hm]; kernel_rfl
  have tq0 : (s.name.toList == [99, 111, 117, 110, 116]) = false := by rw [hm]; kernel_rfl
  have tq1 : (s.name.toList == [99, 111, 117, 110, 116, 42]) = false := by rw [hm]; kernel_rfl
  have tq2 : (s.name.toList == [115, 117, 109]) = true := by rw [hm]; kernel_rfl
  have tq3 : (s.name.toList == [116, 111, 116, 97, 108]) = false := by rw [hm]; kernel_rfl
  have tq4 : (s.name.toList == [109, 105, 110]) = false := by rw [hm]; kernel_rfl
  have tq5 : (s.name.toList == [109, 97, 120]) = false := by rw [hm]; kernel_rfl
  have tq6 : (s.name.toList == [103, 114, 111, 117, 112, 95, 99, 111, 110, 99, 97, 116]) = false := by rw [hm]; kernel_rfl
  have hn0 : (s.n == 0) = true := by simpa using h0
  have hn0' : decide (s.n = 0) = true := decide_eq_true h0
  have HA := Aside0.mk ha
  have hc0 : ∀ o, (w.alloc o).cell? ⟨g, 0, none⟩ = some (.string s.name) := fun o => (blk_cell (blk_alloc ha.blk o) 0).trans rfl
  have hc2 : ∀ o, (w.alloc o).cell? ⟨g, 2, none⟩ = some (.int .i64 s.n) := fun o => (blk_cell (blk_alloc ha.blk o) 2).trans rfl
  have hc3 : ∀ o, (w.alloc o).cell? ⟨g, 3, none⟩ = some (.int .u64 s.hi) := fun o => (blk_cell (blk_alloc ha.blk o) 3).trans rfl
  have hc4 : ∀ o, (w.alloc o).cell? ⟨g, 4, none⟩ = some (.int .u64 s.lo) := fun o => (blk_cell (blk_alloc ha.blk o) 4).trans rfl
  have hc5 : ∀ o, (w.alloc o).cell? ⟨g, 5, none⟩ = some (.int .u8 s.best.f0) := fun o => (blk_cell (blk_alloc ha.blk o) 5).trans rfl
  have hc6 : ∀ o, (w.alloc o).cell? ⟨g, 6, none⟩ = some (.int .i64 s.best.f1) := fun o => (blk_cell (blk_alloc ha.blk o) 6).trans rfl
  have hc7 : ∀ o, (w.alloc o).cell? ⟨g, 7, none⟩ = some (.string s.best.f2) := fun o => (blk_cell (blk_alloc ha.blk o) 7).trans rfl
  have hu1 := Tryd.underlying24
  clear ha hm h0
  go_enter Tryd.func10, Tryd.ntmps10
  go_wp2
  (try simp only [Exit.inBlock, Exit.then])
  refine bodyPost_ret (results_cell_row_tmp rfl _ _ w.heap.size 24 _ _ rfl (blk_new w _) Tryd.underlying24 (by kernel_rfl)) rfl ?_
  exact ⟨rfl, below_alloc (Below.refl _ _) _⟩

set_option maxHeartbeats 8000000 in
set_option maxRecDepth 100000 in
theorem final_Concat0 (g m B : Nat) (P : Nat → Prop) (s : AccS) (lv : Value) (D : DataW Unit) (w : World) (ha : IsAcc w B P g s lv m D) (hm : s.name = nmConcat) (h0 : s.n = 0) :
    Calls Tryd.prog 10 #[.pointer (some ⟨g, 0, none⟩)] w fun e w' => e = .returned (.tuple #[.agg (vcells zeroV), .int .i64 0]) ∧ Below w.heap.size w w' := by
  have tq : (s.name.toList == []) = false := by rw [hm]; kernel_rfl
  have tq0 : (s.name.toList == [99, 111, 117, 110, 116]) = false := by rw [hm]; kernel_rfl
  have tq1 : (s.name.toList == [99, 111, 117, 110, 116, 42]) = false := by rw [hm]; kernel_rfl
  have tq2 : (s.name.toList == [115, 117, 109]) = false := by rw [hm]; kernel_rfl
  have tq3 : (s.name.toList == [116, 111, 116, 97, 108]) = false := by rw [hm]; kernel_rfl
  have tq4 : (s.name.toList == [109, 105, 110]) = false := by rw [hm]; kernel_rfl
  have tq5 : (s.name.toList == [109, 97, 120]) = false := by rw [hm]; kernel_rfl
  have tq6 : (s.name.toList == [103, 114, 111, 117, 112, 95, 99, 111, 110, 99, 97, 116]) = true := by rw [hm]; kernel_rfl
  have hn0 : (s.n == 0) = true := by simpa using h0
  have hn0' : decide (s.n = 0) = true := decide_eq_true h0
  have HA := Aside0.mk ha
  have hc0 : ∀ o, (w.alloc o).cell? ⟨g, 0, none⟩ = some (.string s.name) := fun o => (blk_cell (blk_alloc ha.blk o) 0).trans rfl
  have hc2 : ∀ o, (w.alloc o).cell? ⟨g, 2, none⟩ = some (.int .i64 s.n) := fun o => (blk_cell (blk_alloc ha.blk o) 2).trans rfl
  have hc3 : ∀ o, (w.alloc o).cell? ⟨g, 3, none⟩ = some (.int .u64 s.hi) := fun o => (blk_cell (blk_alloc ha.blk o) 3).trans rfl
  have hc4 : ∀ o, (w.alloc o).cell? ⟨g, 4, none⟩ = some (.int .u64 s.lo) := fun o => (blk_cell (blk_alloc ha.blk o) 4).trans rfl
  have hc5 : ∀ o, (w.alloc o).cell? ⟨g, 5, none⟩ = some (.int .u8 s.best.f0) := fun o => (blk_cell (blk_alloc ha.blk o) 5).trans rfl
  have hc6 : ∀ o, (w.alloc o).cell? ⟨g, 6, none⟩ = some (.int .i64 s.best.f1) := fun o => (blk_cell (blk_alloc ha.blk o) 6).trans rfl
  have hc7 : ∀ o, (w.alloc o).cell? ⟨g, 7, none⟩ = some (.string s.best.f2) := fun o => (blk_cell (blk_alloc ha.blk o) 7).trans rfl
  have hu1 := Tryd.underlying24
  clear ha hm h0
  go_enter Tryd.func10, Tryd.ntmps10
  go_wp2
  (try simp only [Exit.inBlock, Exit.then])
  refine bodyPost_ret (results_cell_row_tmp rfl _ _ w.heap.size 24 _ _ rfl (blk_new w _) Tryd.underlying24 (by kernel_rfl)) rfl ?_
  exact ⟨rfl, below_alloc (Below.refl _ _) _⟩

set_option maxHeartbeats 8000000 in
set_option maxRecDepth 100000 in
theorem final_Concat (g m B : Nat) (P : Nat → Prop) (s : AccS) (lv : Value) (D : DataW Unit) (w : World) (ha : IsAcc w B P g s lv m D) (hm : s.name = nmConcat) (h0 : s.n ≠ 0) (hG : Glob w) (r : S24 × Int) (hj : joinS s.l = some r) :
    Calls Tryd.prog 10 #[.pointer (some ⟨g, 0, none⟩)] w fun e w' => e = .returned (.tuple #[.agg (vcells r.1), .int .i64 r.2]) ∧ Below w.heap.size w w' := by
  have tq : (s.name.toList == []) = false := by rw [hm]; kernel_rfl
  have tq0 : (s.name.toList == [99, 111, 117, 110, 116]) = false := by rw [hm]; kernel_rfl
  have tq1 : (s.name.toList == [99, 111, 117, 110, 116, 42]) = false := by rw [hm]; kernel_rfl
  have tq2 : (s.name.toList == [115, 117, 109]) = false := by rw [hm]; kernel_rfl
  have tq3 : (s.name.toList == [116, 111, 116, 97, 108]) = false := by rw [hm]; kernel_rfl
  have tq4 : (s.name.toList == [109, 105, 110]) = false := by rw [hm]; kernel_rfl
  have tq5 : (s.name.toList == [109, 97, 120]) = false := by rw [hm]; kernel_rfl
  have tq6 : (s.name.toList == [103, 114, 111, 117, 112, 95, 99, 111, 110, 99, 97, 116]) = true := by rw [hm]; kernel_rfl
  have hn0 : (s.n == 0) = false := by simpa using h0
  have hn0' : decide (s.n = 0) = false := decide_eq_false h0
  have HG := Aside0.mk hG
  have HJ := Aside0.mk hj
  have HA := Aside0.mk ha
  have hc0 : ∀ o, (w.alloc o).cell? ⟨g, 0, none⟩ = some (.string s.name) := fun o => (blk_cell (blk_alloc ha.blk o) 0).trans rfl
  have hc2 : ∀ o, (w.alloc o).cell? ⟨g, 2, none⟩ = some (.int .i64 s.n) := fun o => (blk_cell (blk_alloc ha.blk o) 2).trans rfl
  have hc3 : ∀ o, (w.alloc o).cell? ⟨g, 3, none⟩ = some (.int .u64 s.hi) := fun o => (blk_cell (blk_alloc ha.blk o) 3).trans rfl
  have hc4 : ∀ o, (w.alloc o).cell? ⟨g, 4, none⟩ = some (.int .u64 s.lo) := fun o => (blk_cell (blk_alloc ha.blk o) 4).trans rfl
  have hc5 : ∀ o, (w.alloc o).cell? ⟨g, 5, none⟩ = some (.int .u8 s.best.f0) := fun o => (blk_cell (blk_alloc ha.blk o) 5).trans rfl
  have hc6 : ∀ o, (w.alloc o).cell? ⟨g, 6, none⟩ = some (.int .i64 s.best.f1) := fun o => (blk_cell (blk_alloc ha.blk o) 6).trans rfl
  have hc7 : ∀ o, (w.alloc o).cell? ⟨g, 7, none⟩ = some (.string s.best.f2) := fun o => (blk_cell (blk_alloc ha.blk o) 7).trans rfl
  have hu1 := Tryd.underlying24
  clear ha hm h0 hG hj
  go_enter Tryd.func10, Tryd.ntmps10
  go_wp2_with fail
  refine (agg_join g m B P s lv D r _ (HA.out.below (below_alloc (Below.refl _ _) _)) (HG.out.below (below_alloc (Below.refl _ _) _)) HJ.out).mono ?_
  rintro e w5 ⟨rfl, hb⟩
  have HB5 := Aside0.mk (below_step (below_alloc (Below.refl _ _) _) hb)
  have hz5 : w5.heap[w.heap.size]? = some (.cells #[.int .u8 0, .int .i64 0, .string ⟨#[]⟩] 24 (0, 0)) := blk_below (blk_new w _) hb
  have hf0 := blk_frozen hz5 0
  have hf1 := blk_frozen hz5 1
  have hf2 := blk_frozen hz5 2
  have hd0 : w5.cell? ⟨w.heap.size, 0, none⟩ = some (.int .u8 0) := (blk_cell hz5 0).trans rfl
  have hd1 : w5.cell? ⟨w.heap.size, 1, none⟩ = some (.int .i64 0) := (blk_cell hz5 1).trans rfl
  have hd2 : w5.cell? ⟨w.heap.size, 2, none⟩ = some (.string ⟨#[]⟩) := (blk_cell hz5 2).trans rfl
  have HZ5 := Aside0.mk hz5
  clear hb hz5
  go_wp2
  have hz6 := blk_put (blk_put (blk_put HZ5.out 0 (.int .u8 r.1.f0) rfl) 1 (.int .i64 r.1.f1) rfl) 2 (.string r.1.f2) (cs' := vcells r.1) rfl
  have hT6 := (((Turns.of_below HB5.out (fun _ => False)).setCell (p := ⟨w.heap.size, 0, none⟩) (.inr (Nat.le_refl _)) (.int .u8 r.1.f0)).setCell (p := ⟨w.heap.size, 1, none⟩) (.inr (Nat.le_refl _)) (.int .i64 r.1.f1)).setCell (p := ⟨w.heap.size, 2, none⟩) (.inr (Nat.le_refl _)) (.string r.1.f2)
  (try simp only [Exit.inBlock, Exit.then])
  refine bodyPost_ret (results_cell_row_tmp rfl _ _ w.heap.size 24 _ _ rfl (hz6) Tryd.underlying24 (by kernel_rfl)) rfl ?_
  exact ⟨rfl, hT6.toBelow (Nat.le_refl _) (fun _ h => h.elim)⟩

theorem agg_final (g m B : Nat) (P : Nat → Prop) (s : AccS) (lv : Value) (D : DataW Unit) (w : World) (ha : IsAcc w B P g s lv m D) (hG : Glob w) (hk : agg_Known.f s.name = some true) (r : S24 × Int) (hf : finS s = some r) :
    Calls Tryd.prog 10 #[.pointer (some ⟨g, 0, none⟩)] w fun e w' => e = .returned (.tuple #[.agg (vcells r.1), .int .i64 r.2]) ∧ Below w.heap.size w w' := by
  unfold finS at hf
  by_cases h0 : s.name = nmCount
  · rw [if_pos h0] at hf
    obtain rfl := Option.some.inj hf
    exact final_Count g m B P s lv D w ha h0
  rw [if_neg h0] at hf
  by_cases h1 : s.name = nmStar
  · rw [if_pos h1] at hf
    obtain rfl := Option.some.inj hf
    exact final_Star g m B P s lv D w ha h1
  rw [if_neg h1] at hf
  by_cases h2 : s.name = nmMin
  · rw [if_pos h2] at hf
    obtain rfl := Option.some.inj hf
    exact final_Min g m B P s lv D w ha h2
  rw [if_neg h2] at hf
  by_cases h3 : s.name = nmMax
  · rw [if_pos h3] at hf
    obtain rfl := Option.some.inj hf
    exact final_Max g m B P s lv D w ha h3
  rw [if_neg h3] at hf
  by_cases h4 : s.name = nmTotal
  · rw [if_pos h4] at hf
    obtain rfl := Option.some.inj hf
    unfold sumV
    split
    · rename_i hs
      exact final_Total g m B P s lv D w ha h4 hs
    · rename_i hs
      exact final_TotalX g m B P s lv D w ha h4 hs
  rw [if_neg h4] at hf
  by_cases h5 : s.name = nmConcat
  · by_cases hn : s.n = 0
    · rw [if_pos hn] at hf
      obtain rfl := Option.some.inj hf
      exact final_Concat0 g m B P s lv D w ha h5 hn
    · rw [if_neg hn, if_pos h5] at hf
      exact final_Concat g m B P s lv D w ha h5 hn hG r hf
  have h6 : s.name = nmSum := by
    unfold agg_Known.f at hk
    have key : ∀ nm : ByteArray, s.name.toList = nm.toList → s.name = nm := fun nm h => by
      rw [ByteArray.toList_eq, ByteArray.toList_eq] at h
      cases nm; cases hq : s.name
      rw [hq] at h
      congr 1
      exact Array.ext' h
    by_cases a0 : s.name.toList = ([99, 111, 117, 110, 116] : List UInt8)
    · exact absurd (key nmCount (a0.trans (by kernel_rfl))) h0
    rw [if_neg a0] at hk
    by_cases a1 : s.name.toList = ([99, 111, 117, 110, 116, 42] : List UInt8)
    · exact absurd (key nmStar (a1.trans (by kernel_rfl))) h1
    rw [if_neg a1] at hk
    by_cases a2 : s.name.toList = ([115, 117, 109] : List UInt8)
    · exact key nmSum (a2.trans (by kernel_rfl))
    rw [if_neg a2] at hk
    by_cases a3 : s.name.toList = ([116, 111, 116, 97, 108] : List UInt8)
    · exact absurd (key nmTotal (a3.trans (by kernel_rfl))) h4
    rw [if_neg a3] at hk
    by_cases a4 : s.name.toList = ([109, 105, 110] : List UInt8)
    · exact absurd (key nmMin (a4.trans (by kernel_rfl))) h2
    rw [if_neg a4] at hk
    by_cases a5 : s.name.toList = ([109, 97, 120] : List UInt8)
    · exact absurd (key nmMax (a5.trans (by kernel_rfl))) h3
    rw [if_neg a5] at hk
    by_cases a6 : s.name.toList = ([103, 114, 111, 117, 112, 95, 99, 111, 110, 99, 97, 116] : List UInt8)
    · exact absurd (key nmConcat (a6.trans (by kernel_rfl))) h5
    rw [if_neg a6] at hk
    cases hk
  by_cases hn : s.n = 0
  · rw [if_pos hn] at hf
    obtain rfl := Option.some.inj hf
    exact final_Sum0 g m B P s lv D w ha h6 hn
  · rw [if_neg hn, if_neg h5] at hf
    obtain rfl := Option.some.inj hf
    unfold sumV
    split
    · rename_i hs
      exact final_Sum g m B P s lv D w ha h6 hn hs
    · rename_i hs
      exact final_SumX g m B P s lv D w ha h6 hn hs
end Go.Proofs.YtjankdoaobklgaaDoor.Q
end
section
namespace Go.Proofs.YtjankdoaobklgaaDoor.Q
open Go.RowKit Go.Proofs.YtjankdoaobklgaaDoorW.PrintWords Go.Proofs.YtjankdoaobklgaaDoorW.PrintLast Go.Proofs.YtjankdoaobklgaaDoorW.PrintMore

set_option maxHeartbeats 8000000 in
set_option maxRecDepth 100000 in
theorem nil_reset (w : World) :
    Calls Tryd.prog 9 #[.pointer none] w fun e w' => e = .returned (.tuple #[]) ∧ Below w.heap.size w w' := by
  go_enter Tryd.func9, Tryd.ntmps9
  go_wp2
  (try simp only [Exit.inBlock, Exit.then])
  refine bodyPost_ret (results_none rfl _ _ _) rfl ?_
  exact ⟨rfl, Below.refl _ _⟩

set_option maxHeartbeats 8000000 in
set_option maxRecDepth 100000 in
theorem none_reset (g : Nat) (w : World) (hb : w.cell? ⟨g, 0, none⟩ = some (.string ⟨#[]⟩)) :
    Calls Tryd.prog 9 #[.pointer (some ⟨g, 0, none⟩)] w fun e w' => e = .returned (.tuple #[]) ∧ Below w.heap.size w w' := by
  go_enter Tryd.func9, Tryd.ntmps9
  go_wp2
  (try simp only [Exit.inBlock, Exit.then])
  refine bodyPost_ret (results_none rfl _ _ _) rfl ?_
  exact ⟨rfl, Below.refl _ _⟩

set_option maxHeartbeats 8000000 in
set_option maxRecDepth 100000 in
theorem nil_final (w : World) :
    Calls Tryd.prog 10 #[.pointer none] w fun e w' => e = .returned (.tuple #[.agg (vcells zeroV), .int .i64 1]) ∧ Below w.heap.size w w' := by
  have hu1 := Tryd.underlying24
  go_enter Tryd.func10, Tryd.ntmps10
  go_wp2
  (try simp only [Exit.inBlock, Exit.then])
  refine bodyPost_ret (results_cell_row_tmp rfl _ _ w.heap.size 24 _ _ rfl (blk_new w _) Tryd.underlying24 (by kernel_rfl)) rfl ?_
  exact ⟨rfl, below_alloc (Below.refl _ _) _⟩

set_option maxHeartbeats 8000000 in
set_option maxRecDepth 100000 in
theorem none_final (g : Nat) (w : World) (hb : w.cell? ⟨g, 0, none⟩ = some (.string ⟨#[]⟩)) :
    Calls Tryd.prog 10 #[.pointer (some ⟨g, 0, none⟩)] w fun e w' => e = .returned (.tuple #[.agg (vcells zeroV), .int .i64 1]) ∧ Below w.heap.size w w' := by
  have hu1 := Tryd.underlying24
  have hb2 : ∀ o, (w.alloc o).cell? ⟨g, 0, none⟩ = some (.string ⟨#[]⟩) := fun o => pw_cell_below (below_alloc (Below.refl _ _) o) hb
  go_enter Tryd.func10, Tryd.ntmps10
  go_wp2
  (try simp only [Exit.inBlock, Exit.then])
  refine bodyPost_ret (results_cell_row_tmp rfl _ _ w.heap.size 24 _ _ rfl (blk_new w _) Tryd.underlying24 (by kernel_rfl)) rfl ?_
  exact ⟨rfl, below_alloc (Below.refl _ _) _⟩

set_option maxHeartbeats 8000000 in
set_option maxRecDepth 100000 in
theorem nil_step (x : S24) (w : World) :
    Calls Tryd.prog 11 #[.pointer none, .agg (vcells x)] w fun e w' => e = .returned (.int .i64 1) ∧ Below w.heap.size w w' := by
  have hu1 := Tryd.underlying24
  go_enter Tryd.func11, Tryd.ntmps11
  go_wp2
  go_ret
  exact ⟨rfl, below_alloc (below_alloc (Below.refl _ _) _) _⟩

set_option maxHeartbeats 8000000 in
set_option maxRecDepth 100000 in
theorem none_step (g : Nat) (x : S24) (w : World) (hb : w.cell? ⟨g, 0, none⟩ = some (.string ⟨#[]⟩)) :
    Calls Tryd.prog 11 #[.pointer (some ⟨g, 0, none⟩), .agg (vcells x)] w fun e w' => e = .returned (.int .i64 1) ∧ Below w.heap.size w w' := by
  have hu1 := Tryd.underlying24
  have hb2 : ∀ o o', ((w.alloc o).alloc o').cell? ⟨g, 0, none⟩ = some (.string ⟨#[]⟩) := fun o o' => pw_cell_below (below_alloc (below_alloc (Below.refl _ _) o) o') hb
  go_enter Tryd.func11, Tryd.ntmps11
  go_wp2
  go_ret
  exact ⟨rfl, below_alloc (below_alloc (Below.refl _ _) _) _⟩
end Go.Proofs.YtjankdoaobklgaaDoor.Q
end
section
namespace Go.Proofs.YtjankdoaobklgaaDoor.Q
open Go.RowKit Go.Proofs.YtjankdoaobklgaaDoorW.PrintWords Go.Proofs.YtjankdoaobklgaaDoorW.PrintLast Go.Proofs.YtjankdoaobklgaaDoorW.PrintMore

theorem bytes_eq {a b : ByteArray} (h : a.toList = b.toList) : a = b := by
  rw [ByteArray.toList_eq, ByteArray.toList_eq] at h
  cases a; cases b
  congr 1
  exact Array.ext' h

theorem known_cases {nm : ByteArray} (hk : agg_Known.f nm = some true) : nm = nmCount ∨ nm = nmStar ∨ nm = nmSum ∨ nm = nmTotal ∨ nm = nmMin ∨ nm = nmMax ∨ nm = nmConcat := by
  unfold agg_Known.f at hk
  by_cases a0 : nm.toList = ([99, 111, 117, 110, 116] : List UInt8)
  · exact .inl (bytes_eq (a0.trans (by kernel_rfl)))
  rw [if_neg a0] at hk
  by_cases a1 : nm.toList = ([99, 111, 117, 110, 116, 42] : List UInt8)
  · exact .inr (.inl (bytes_eq (a1.trans (by kernel_rfl))))
  rw [if_neg a1] at hk
  by_cases a2 : nm.toList = ([115, 117, 109] : List UInt8)
  · exact .inr (.inr (.inl (bytes_eq (a2.trans (by kernel_rfl)))))
  rw [if_neg a2] at hk
  by_cases a3 : nm.toList = ([116, 111, 116, 97, 108] : List UInt8)
  · exact .inr (.inr (.inr (.inl (bytes_eq (a3.trans (by kernel_rfl))))))
  rw [if_neg a3] at hk
  by_cases a4 : nm.toList = ([109, 105, 110] : List UInt8)
  · exact .inr (.inr (.inr (.inr (.inl (bytes_eq (a4.trans (by kernel_rfl)))))))
  rw [if_neg a4] at hk
  by_cases a5 : nm.toList = ([109, 97, 120] : List UInt8)
  · exact .inr (.inr (.inr (.inr (.inr (.inl (bytes_eq (a5.trans (by kernel_rfl))))))))
  rw [if_neg a5] at hk
  by_cases a6 : nm.toList = ([103, 114, 111, 117, 112, 95, 99, 111, 110, 99, 97, 116] : List UInt8)
  · exact .inr (.inr (.inr (.inr (.inr (.inr (bytes_eq (a6.trans (by kernel_rfl))))))))
  rw [if_neg a6] at hk
  cases hk
theorem known_ne {nm : ByteArray} (hk : agg_Known.f nm = some true) : (nm.toList == []) = false := by
  rcases known_cases hk with rfl | rfl | rfl | rfl | rfl | rfl | rfl <;> kernel_rfl
theorem known_size {nm : ByteArray} (hk : agg_Known.f nm = some true) : nm.size ≤ 100 := by
  rcases known_cases hk with rfl | rfl | rfl | rfl | rfl | rfl | rfl <;> decide

/-- a value: its errno, the Acc behind it -/
def stepF (s : AccS) (x : S24) : Option (Int × AccS) :=
  if rightV x = false then some (2, s) else if cntB s x = false then some (0, cntS s x) else (bodyS (cntS s x) x).map fun s2 => (0, { s2 with n := wrap64 (s2.n + 1) })

theorem agg_step (g m B : Nat) (P : Nat → Prop) (s s' : AccS) (lv : Value) (D : DataW Unit) (x : S24) (r : Int) (w : World) (ha : IsAcc w B P g s lv m D) (hk : agg_Known.f s.name = some true) (hl : s.seen.length < 9223372036854775807) (hll : s.l.length + 1 ≤ 4000000000000) (hP : ∀ k, w.heap.size ≤ k → P k) (hB : B ≤ w.heap.size) (hs : stepF s x = some (r, s')) :
    Calls Tryd.prog 11 #[.pointer (some ⟨g, 0, none⟩), .agg (vcells x)] w fun e w' => ∃ lv' D', e = .returned (.int .i64 r) ∧ IsAcc w' B P g s' lv' m D' ∧ Turns w w' P := by
  unfold stepF at hs
  by_cases h1 : rightV x = false
  · rw [if_pos h1] at hs
    obtain ⟨rfl, rfl⟩ := Prod.mk.inj (Option.some.inj hs)
    refine (agg_step_bad g m B P s lv D x w ha (known_ne hk) h1).mono ?_
    rintro e w' ⟨rfl, hb⟩
    exact ⟨lv, D, rfl, ha.below hb, Turns.of_below hb _⟩
  rw [if_neg h1] at hs
  have h1 : rightV x = true := by simpa using h1
  by_cases h2 : cntB s x = false
  · rw [if_pos h2] at hs
    obtain ⟨rfl, rfl⟩ := Prod.mk.inj (Option.some.inj hs)
    refine (agg_step_skip g m B P s lv D x w ha (known_ne hk) h1 h2 hl).mono ?_
    rintro e w' ⟨D', rfl, hA, hT⟩
    exact ⟨lv, D', rfl, hA, hT⟩
  rw [if_neg h2] at hs
  obtain ⟨s2, hs2, he⟩ := Option.map_eq_some_iff.1 hs
  obtain ⟨rfl, rfl⟩ := Prod.mk.inj he
  exact agg_step_go g m B P s lv D x w ha (known_ne hk) h1 (by simpa using h2) hl hP hB (known_size hk) hll s2 hs2

theorem bestS_same {sg : Int} {s s' : AccS} {x : S24} (h : bestS sg s x = some s') : s'.name = s.name ∧ s'.seen = s.seen ∧ s'.l = s.l := by
  unfold bestS at h
  split at h
  · obtain rfl := Option.some.inj h
    exact ⟨rfl, rfl, rfl⟩
  · obtain ⟨c, _, h⟩ := Option.bind_eq_some_iff.1 h
    split at h <;> (obtain rfl := Option.some.inj h; exact ⟨rfl, rfl, rfl⟩)
theorem bodyS_same {s s' : AccS} {x : S24} (h : bodyS s x = some s') : s'.name = s.name ∧ s'.seen = s.seen ∧ s'.l.length ≤ s.l.length + 1 := by
  unfold bodyS at h
  split at h
  · obtain ⟨r, _, rfl⟩ := Option.map_eq_some_iff.1 h
    exact ⟨rfl, rfl, Nat.le_succ _⟩
  split at h
  · obtain ⟨r, _, rfl⟩ := Option.map_eq_some_iff.1 h
    exact ⟨rfl, rfl, Nat.le_succ _⟩
  split at h
  · obtain ⟨e1, e2, e3⟩ := bestS_same h
    exact ⟨e1, e2, by rw [e3]; exact Nat.le_succ _⟩
  split at h
  · obtain ⟨e1, e2, e3⟩ := bestS_same h
    exact ⟨e1, e2, by rw [e3]; exact Nat.le_succ _⟩
  split at h
  · obtain rfl := Option.some.inj h
    exact ⟨rfl, rfl, by simp⟩
  · obtain rfl := Option.some.inj h
    exact ⟨rfl, rfl, Nat.le_succ _⟩
theorem cntS_seen (s : AccS) (x : S24) : (cntS s x).seen.length ≤ s.seen.length + 1 := by
  unfold cntS
  split
  · exact Nat.le_succ _
  split
  · exact Nat.le_succ _
  split
  · simp
  · exact Nat.le_succ _
theorem stepF_same {s s' : AccS} {x : S24} {r : Int} (h : stepF s x = some (r, s')) : s'.name = s.name ∧ s'.seen.length ≤ s.seen.length + 1 ∧ s'.l.length ≤ s.l.length + 1 := by
  unfold stepF at h
  split at h
  · obtain ⟨_, rfl⟩ := Prod.mk.inj (Option.some.inj h)
    exact ⟨rfl, Nat.le_succ _, Nat.le_succ _⟩
  split at h
  · obtain ⟨_, rfl⟩ := Prod.mk.inj (Option.some.inj h)
    exact ⟨cntS_name s x, cntS_seen s x, by rw [cntS_l]; exact Nat.le_succ _⟩
  · obtain ⟨s2, hs2, he⟩ := Option.map_eq_some_iff.1 h
    obtain ⟨_, rfl⟩ := Prod.mk.inj he
    obtain ⟨e1, e2, e3⟩ := bodyS_same hs2
    exact ⟨e1.trans (cntS_name s x), by show s2.seen.length ≤ _; rw [e2]; exact cntS_seen s x, by show s2.l.length ≤ _; rw [cntS_l] at e3; exact e3⟩

/-- all of them, till one is refused -/
def runF : AccS → List S24 → Option (Int × AccS)
  | s, [] => some (0, s)
  | s, x :: l => (stepF s x).bind fun p => if p.1 = 0 then runF p.2 l else some p
def ofR (p : Int × AccS) : Option (S24 × Int) := if p.1 = 0 then finS p.2 else some (zeroV, p.1)
/-- what a total of values comes to -/
def ofV (nm : ByteArray) (d : Bool) (l : List S24) : Option (S24 × Int) :=
  if agg_Known.f nm = some true then (if (d && (nm.toList == [99, 111, 117, 110, 116, 42])) = true then some (zeroV, 2) else if l.length ≤ 1000000 then (runF (newS nm d) l).bind ofR else none) else some (zeroV, 21)
end Go.Proofs.YtjankdoaobklgaaDoor.Q
end
section
namespace Go.Proofs.YtjankdoaobklgaaDoor.Q
open Go.RowKit Go.Proofs.YtjankdoaobklgaaDoorW.PrintWords Go.Proofs.YtjankdoaobklgaaDoorW.PrintLast Go.Proofs.YtjankdoaobklgaaDoorW.PrintMore

theorem ofR_bad {p : Int × AccS} {r : S24 × Int} (h : ofR p = some r) (hp : p.1 ≠ 0) : r = (zeroV, p.1) := by
  unfold ofR at h
  rw [if_neg hp] at h
  exact (Option.some.inj h).symm
theorem ofR_ok {p : Int × AccS} {r : S24 × Int} (h : ofR p = some r) (hp : p.1 = 0) : finS p.2 = some r := by
  unfold ofR at h
  rwa [if_pos hp] at h

set_option maxHeartbeats 8000000 in
set_option maxRecDepth 100000 in
theorem of_unknown (nm : ByteArray) (d : Bool) (v2 : Value) (w : World) (hk : agg_Known.f nm = some false) :
    Calls Tryd.prog 15 #[.string nm, .bool d, v2] w fun e w' => e = .returned (.tuple #[.agg (vcells zeroV), .int .i64 21]) ∧ Below w.heap.size w w' := by
  have HK := Aside0.mk hk
  clear hk
  have hu1 := Tryd.underlying24
  go_enter Tryd.func15, Tryd.ntmps15
  go_wp2_with fail
  refine (agg_new_unknown nm d _ HK.out).mono ?_
  rintro e w5 ⟨rfl, hb⟩
  have HB5 := Aside0.mk (below_step (below_alloc (Below.refl _ _) _) hb)
  have hz5 : w5.heap[w.heap.size]? = some (.cells #[.int .u8 0, .int .i64 0, .string ⟨#[]⟩] 24 (0, 0)) := blk_below (blk_new w _) hb
  have hf0 := blk_frozen hz5 0
  have hf1 := blk_frozen hz5 1
  have hf2 := blk_frozen hz5 2
  have hd0 : w5.cell? ⟨w.heap.size, 0, none⟩ = some (.int .u8 0) := (blk_cell hz5 0).trans rfl
  have hd1 : w5.cell? ⟨w.heap.size, 1, none⟩ = some (.int .i64 0) := (blk_cell hz5 1).trans rfl
  have hd2 : w5.cell? ⟨w.heap.size, 2, none⟩ = some (.string ⟨#[]⟩) := (blk_cell hz5 2).trans rfl
  have HZ5 := Aside0.mk hz5
  clear hb hz5
  go_wp2
  (try simp only [Exit.inBlock, Exit.then])
  refine bodyPost_ret (results_cell_row_tmp rfl _ _ w.heap.size 24 _ _ rfl (put3 HZ5.out zeroV) Tryd.underlying24 (by kernel_rfl)) rfl ?_
  exact ⟨rfl, below3 HB5.out (Nat.le_refl _) zeroV⟩

set_option maxHeartbeats 8000000 in
set_option maxRecDepth 100000 in
theorem of_star (nm : ByteArray)  (v2 : Value) (w : World) (hk : agg_Known.f nm = some true) (hs : (nm.toList == [99, 111, 117, 110, 116, 42]) = true) :
    Calls Tryd.prog 15 #[.string nm, .bool true, v2] w fun e w' => e = .returned (.tuple #[.agg (vcells zeroV), .int .i64 2]) ∧ Below w.heap.size w w' := by
  have HK := Aside0.mk hk
  have HS := Aside0.mk hs
  clear hs
  clear hk
  have hu1 := Tryd.underlying24
  go_enter Tryd.func15, Tryd.ntmps15
  go_wp2_with fail
  refine (agg_new_star nm _ HK.out HS.out).mono ?_
  rintro e w5 ⟨rfl, hb⟩
  have HB5 := Aside0.mk (below_step (below_alloc (Below.refl _ _) _) hb)
  have hz5 : w5.heap[w.heap.size]? = some (.cells #[.int .u8 0, .int .i64 0, .string ⟨#[]⟩] 24 (0, 0)) := blk_below (blk_new w _) hb
  have hf0 := blk_frozen hz5 0
  have hf1 := blk_frozen hz5 1
  have hf2 := blk_frozen hz5 2
  have hd0 : w5.cell? ⟨w.heap.size, 0, none⟩ = some (.int .u8 0) := (blk_cell hz5 0).trans rfl
  have hd1 : w5.cell? ⟨w.heap.size, 1, none⟩ = some (.int .i64 0) := (blk_cell hz5 1).trans rfl
  have hd2 : w5.cell? ⟨w.heap.size, 2, none⟩ = some (.string ⟨#[]⟩) := (blk_cell hz5 2).trans rfl
  have HZ5 := Aside0.mk hz5
  clear hb hz5
  go_wp2
  (try simp only [Exit.inBlock, Exit.then])
  refine bodyPost_ret (results_cell_row_tmp rfl _ _ w.heap.size 24 _ _ rfl (put3 HZ5.out zeroV) Tryd.underlying24 (by kernel_rfl)) rfl ?_
  exact ⟨rfl, below3 HB5.out (Nat.le_refl _) zeroV⟩

set_option maxHeartbeats 8000000 in
set_option maxRecDepth 100000 in
theorem of_main (nm : ByteArray) (d : Bool) (A : Option Addr) (c : Nat) (l : List S24) (r : S24 × Int) (w : World) (hr : Kd.C k24 w A l.length l) (hG : Glob w) (hk : agg_Known.f nm = some true) (hs : (d && (nm.toList == [99, 111, 117, 110, 116, 42])) = false) (hl : l.length ≤ 1000000) (hf : (runF (newS nm d) l).bind ofR = some r) :
    Calls Tryd.prog 15 #[.string nm, .bool d, .slice A l.length c] w fun e w' => e = .returned (.tuple #[.agg (vcells r.1), .int .i64 r.2]) ∧ Below w.heap.size w w' := by
  have HK := Aside0.mk hk
  have HS := Aside0.mk hs
  have HR := Aside0.mk hr
  have HG := Aside0.mk hG
  have HL := Aside0.mk hl
  have HF := Aside0.mk hf
  have hm : l.length ≤ 9223372036854775807 := hr.2.1
  clear hk hs hr hG hl hf
  have hu1 := Tryd.underlying24
  go_enter Tryd.func15, Tryd.ntmps15
  go_wp2_with fail
  refine (agg_new nm d _ HK.out HS.out (known_ne HK.out)).mono ?_
  rintro e w5 ⟨g, m, rfl, hA, hb⟩
  obtain ⟨B1, hB1⟩ : ∃ B1, B1 = (w.alloc (.cells #[.int .u8 0, .int .i64 0, .string ⟨#[]⟩] 24)).heap.size := ⟨_, rfl⟩
  rw [← hB1] at hA
  have hlt1 : w.heap.size < B1 := by rw [hB1]; simp
  have HB1 := Aside0.mk hlt1
  have HS5 := Aside0.mk (show B1 ≤ w5.heap.size by rw [hB1]; exact hb.size)
  have HB5 := Aside0.mk (below_step (below_alloc (Below.refl _ _) _) hb)
  have HA5 := Aside0.mk hA
  have HZ5 := Aside0.mk (show w5.heap[w.heap.size]? = some (.cells #[.int .u8 0, .int .i64 0, .string ⟨#[]⟩] 24 (0, 0)) from blk_below (blk_new w _) hb)
  clear hA hb hlt1 hB1
  go_wp2
  go_loopg [10] l.length (fun kq v wr => ∃ (i : Nat) (s : AccS) (lv : Value) (D : DataW Unit), v = .int .i64 i ∧ Aside0 (i + kq = l.length) ∧ Aside0 ((runF s (l.drop i)).bind ofR = some r) ∧ Aside0 (IsAcc wr B1 (fun k => B1 ≤ k) g s lv m D) ∧ Aside0 (Below w.heap.size w wr) ∧ Aside0 (wr.heap[w.heap.size]? = some (.cells #[.int .u8 0, .int .i64 0, .string ⟨#[]⟩] 24 (0, 0))) ∧ Aside0 (s.name = nm ∧ s.seen.length ≤ i ∧ s.l.length ≤ i) ∧ Aside0 (B1 ≤ wr.heap.size))
  case atStart => exact ⟨0, newS nm d, _, _, rfl, ⟨Nat.zero_add _⟩, HF, HA5, HB5, HZ5, ⟨rfl, Nat.le_refl _, Nat.le_refl _⟩, HS5⟩
  case round =>
    obtain ⟨i, s, lv, D, rfl, HI, HX, HA6, HB6, HZ6, HN6, HS6⟩ := hrel
    by_cases hlt : i < l.length
    · have hd : decide ((i : Int) < (l.length : Int)) = true := decide_eq_true (by omega)
      have p1 : 0 ≤ (i : Int) := by omega
      have q1 : (i : Int) < (l.length : Int) := by omega
      obtain ⟨ad, e1, hx0, hx1, hx2⟩ := at_T24 HR.out (i : Int) p1 q1
      cases e1
      replace hx0 := (HB6.out.cell (World.block_lt_of_cell? w _ hx0)).trans hx0
      replace hx1 := (HB6.out.cell (World.block_lt_of_cell? w _ hx1)).trans hx1
      replace hx2 := (HB6.out.cell (World.block_lt_of_cell? w _ hx2)).trans hx2
      have HV := Aside0.mk (show rd_T24 l (i : Int) = l[i] by simp [rd_T24, List.getD_eq_getElem?_getD, List.getElem?_eq_getElem hlt])
      rw [HV.out, Int.toNat_natCast] at hx0 hx1 hx2
      have hq1 := eq_true p1
      have hq2 := eq_true q1
      have hrun := HX.out
      rw [List.drop_eq_getElem_cons hlt] at hrun
      unfold runF at hrun
      obtain ⟨⟨e1, s1⟩, hstep, hrun⟩ : ∃ p, stepF s l[i] = some p ∧ ((if p.1 = 0 then runF p.2 (l.drop (i + 1)) else some p).bind ofR = some r) := by
        cases hc : stepF s l[i] with
        | none => rw [hc] at hrun; cases hrun
        | some p => rw [hc] at hrun; exact ⟨p, rfl, hrun⟩
      have HST := Aside0.mk hstep
      have HRUN := Aside0.mk hrun
      clear p1 q1 hrun hstep
      go_wp2_with fail
      refine (agg_step g m B1 (fun k => B1 ≤ k) s s1 lv D l[i] e1 wr HA6.out (by rw [HN6.out.1]; exact HK.out) (by have := HN6.out.2.1; have := HL.out; omega) (by have := HN6.out.2.2; have := HL.out; omega) (fun k hk => Nat.le_trans HS6.out hk) HS6.out HST.out).mono ?_
      rintro e w7 ⟨lv7, D7, rfl, hA7, hT7⟩
      have HA7 := Aside0.mk hA7
      have hsame := stepF_same HST.out
      have HN7 := Aside0.mk (show s1.name = nm ∧ s1.seen.length ≤ i + 1 ∧ s1.l.length ≤ i + 1 from ⟨hsame.1.trans HN6.out.1, by have := HN6.out.2.1; omega, by have := HN6.out.2.2; omega⟩)
      have HB7 := Aside0.mk (((Turns.of_below HB6.out (fun _ => False)).then_ hT7 (fun k hk => .inr (by have := HB1.out; omega))).toBelow (Nat.le_refl _) (fun _ h => h.elim))
      have HZ7 := Aside0.mk (blk_kept HZ6.out hT7.kept (by have := HB1.out; omega))
      have HS7 := Aside0.mk (Nat.le_trans HS6.out hT7.size)
      clear hA7 hT7 hsame
      by_cases he : e1 = 0
      · subst he
        have hrun := HRUN.out
        rw [if_pos rfl] at hrun
        have HX7 := Aside0.mk hrun
        clear hrun
        go_wp2
        go_roundg (gk - 1)
        case measure => have := HI.out; omega
        case rel => exact ⟨i + 1, s1, lv7, D7, by go_num, ⟨by have := HI.out; omega⟩, HX7, HA7, HB7, HZ7, HN7, HS7⟩
      · have hrun := HRUN.out
        rw [if_neg he] at hrun
        have HX7 := Aside0.mk (ofR_bad (p := (e1, s1)) hrun he)
        have hne : (e1 != 0) = true := by simpa using he
        have hne' : decide (e1 = 0) = false := decide_eq_false he
        clear hrun
        have hz7 := HZ7.out
        have hf0 := blk_frozen hz7 0
        have hf1 := blk_frozen hz7 1
        have hf2 := blk_frozen hz7 2
        have hd0 : w7.cell? ⟨w.heap.size, 0, none⟩ = some (.int .u8 0) := (blk_cell hz7 0).trans rfl
        have hd1 : w7.cell? ⟨w.heap.size, 1, none⟩ = some (.int .i64 0) := (blk_cell hz7 1).trans rfl
        have hd2 : w7.cell? ⟨w.heap.size, 2, none⟩ = some (.string ⟨#[]⟩) := (blk_cell hz7 2).trans rfl
        clear hz7
        go_wp2
        rw [HX7.out]
        (try simp only [Exit.inBlock, Exit.then])
        refine bodyPost_ret (results_cell_row_tmp rfl _ _ w.heap.size 24 _ _ rfl (put3 HZ7.out zeroV) Tryd.underlying24 (by kernel_rfl)) rfl ?_
        exact ⟨rfl, below3 HB7.out (Nat.le_refl _) zeroV⟩
    · have hd : decide ((i : Int) < (l.length : Int)) = false := decide_eq_false (by omega)
      have hrun := HX.out
      rw [List.drop_eq_nil_of_le (by omega)] at hrun
      have HX7 := Aside0.mk (ofR_ok (p := (0, s)) hrun rfl)
      clear hrun
      go_wp2_with fail
      refine (agg_final g m B1 (fun k => B1 ≤ k) s lv D wr HA6.out (HG.out.below HB6.out) (by rw [HN6.out.1]; exact HK.out) r HX7.out).mono ?_
      rintro e w8 ⟨rfl, hb8⟩
      have HB8 := Aside0.mk (below_step HB6.out hb8)
      have hz8 := blk_below HZ6.out hb8
      have HZ8 := Aside0.mk hz8
      have hf0 := blk_frozen hz8 0
      have hf1 := blk_frozen hz8 1
      have hf2 := blk_frozen hz8 2
      have hd0 : w8.cell? ⟨w.heap.size, 0, none⟩ = some (.int .u8 0) := (blk_cell hz8 0).trans rfl
      have hd1 : w8.cell? ⟨w.heap.size, 1, none⟩ = some (.int .i64 0) := (blk_cell hz8 1).trans rfl
      have hd2 : w8.cell? ⟨w.heap.size, 2, none⟩ = some (.string ⟨#[]⟩) := (blk_cell hz8 2).trans rfl
      clear hz8 hb8
      go_wp2
      (try simp only [Exit.inBlock, Exit.then])
      refine bodyPost_ret (results_cell_row_tmp rfl _ _ w.heap.size 24 _ _ rfl (put3 HZ8.out r.1) Tryd.underlying24 (by kernel_rfl)) rfl ?_
      exact ⟨rfl, below3 HB8.out (Nat.le_refl _) r.1⟩

def ofT (r : S24 × Int) : Int × Int × ByteArray × Int := (r.1.f0, r.1.f1, r.1.f2, r.2)
def cardindexlaw08_of.f (a0 : ByteArray) (a1 : Bool) (l2 : List (S24)) : Option (Int × Int × ByteArray × Int) := (ofV a0 a1 l2).map ofT
theorem of_total (nm : ByteArray) (d : Bool) (A : Option Addr) (c : Nat) (l : List S24) (r : S24 × Int) (w : World) (hr : Kd.C k24 w A l.length l) (hG : Glob w) (h : ofV nm d l = some r) :
    Calls Tryd.prog 15 #[.string nm, .bool d, .slice A l.length c] w fun e w' => e = .returned (.tuple #[.agg (vcells r.1), .int .i64 r.2]) ∧ Below w.heap.size w w' := by
  unfold ofV at h
  by_cases hk : agg_Known.f nm = some true
  · rw [if_pos hk] at h
    by_cases hs : (d && (nm.toList == [99, 111, 117, 110, 116, 42])) = true
    · rw [if_pos hs] at h
      obtain rfl := Option.some.inj h
      obtain ⟨rfl, h2⟩ := Bool.and_eq_true_iff.1 hs
      exact of_star nm _ w hk h2
    · rw [if_neg hs] at h
      split at h
      · rename_i hl
        exact of_main nm d A c l r w hr hG hk (by simpa using hs) hl h
      · cases h
  · rw [if_neg hk] at h
    obtain rfl := Option.some.inj h
    have hk' : agg_Known.f nm = some false := by
      unfold agg_Known.f at hk ⊢
      repeat' split at hk
      all_goals first | exact absurd rfl hk | skip
      repeat' split
      all_goals first | rfl | contradiction
    exact of_unknown nm d _ w hk'
theorem cardindexlaw08_of.calls (a0 : ByteArray) (a1 : Bool) (A2 : Option Addr) (c2 : Nat) (l2 : List (S24)) (r1 : Int) (r2 : Int) (r3 : ByteArray) (r4 : Int) (w : World) (hr2 : Kd.C k24 w A2 l2.length l2) (hc2 : l2.length ≤ c2) (hG : Glob w) (h : cardindexlaw08_of.f a0 a1 l2 = some (r1, r2, r3, r4)) :
    Calls Tryd.prog 15 #[.string a0, .bool a1, .slice A2 l2.length c2] w fun e w' => e = .returned (.tuple #[.agg #[.int .u8 r1, .int .i64 r2, .string r3], .int .i64 r4]) ∧ Below w.heap.size w w' := by
  obtain ⟨r, hr, he⟩ := Option.map_eq_some_iff.1 h
  unfold ofT at he
  simp only [Prod.mk.injEq] at he
  obtain ⟨rfl, rfl, rfl, rfl⟩ := he
  exact of_total a0 a1 A2 c2 l2 r w hr2 hG hr
end Go.Proofs.YtjankdoaobklgaaDoor.Q
end
section
namespace Go.Proofs.YtjankdoaobklgaaDoor.Q
open Go.RowKit Go.Proofs.YtjankdoaobklgaaDoorW.PrintWords Go.Proofs.YtjankdoaobklgaaDoorW.PrintLast Go.Proofs.YtjankdoaobklgaaDoorW.PrintMore
attribute [local go_sem] max2_int min2_int max_two min_two max_three min_three max_four min_four   -- for this text's walks alone
set_option linter.unusedVariables false
set_option linter.unusedSimpArgs false

theorem eqA24 (d : Nat) (w : World) (x0 y0 : Int) (x1 y1 : Int) (x2 y2 : ByteArray) :
    (Op.equalIn (d + 2) 24 (.agg #[.int .u8 x0, .int .i64 x1, .string x2]) (.agg #[.int .u8 y0, .int .i64 y1, .string y2])).run Tryd.prog w = .ok (x0 == y0 && (x1 == y1 && (x2.toList == y2.toList))) w := by
  refine eqA_of Tryd.underlying24 (by kernel_rfl) ?_
  refine eqf_cons (by rfl) (by go_simp; rfl) (by go_simp; rfl) (by go_simp) ?_
  refine eqf_cons (by rfl) (by go_simp; rfl) (by go_simp; rfl) (by go_simp) ?_
  exact eqf_last (by rfl) (by go_simp; rfl) (by go_simp; rfl) (by go_simp)
end Go.Proofs.YtjankdoaobklgaaDoor.Q
end
section
namespace Go.Proofs.YtjankdoaobklgaaDoor.Q
open Go.RowKit Go.Proofs.YtjankdoaobklgaaDoorW.PrintWords Go.Proofs.YtjankdoaobklgaaDoorW.PrintLast Go.Proofs.YtjankdoaobklgaaDoorW.PrintMore
attribute [local go_sem] max2_int min2_int max_two min_two max_three min_three max_four min_four   -- for this text's walks alone
set_option linter.unusedVariables false
set_option linter.unusedSimpArgs false

attribute [local go_sem high] eqA24
/-! ### cardindexlaw08_comes: function 21 -/
def cardindexlaw08_comes.f (a0_0 : Int) (a0_1 : Int) (a0_2 : ByteArray) (a1 : ByteArray) (a2 : Bool) (l3 : List (S24)) : Option (Bool) := (cardindexlaw08_of.f a1 a2 l3).bind fun bt149 => (if bt149.2.2.2 = 0 then (some (bt149.1 == a0_0 && (bt149.2.1 == a0_1 && (bt149.2.2.1.toList == a0_2.toList)))) else (some false))
set_option maxHeartbeats 8000000 in
set_option maxRecDepth 100000 in
theorem cardindexlaw08_comes.calls (a0_0 : Int) (a0_1 : Int) (a0_2 : ByteArray) (a1 : ByteArray) (a2 : Bool) (A3 : Option Addr) (c3 : Nat) (l3 : List (S24)) (r : Bool) (w : World) (hr3 : Kd.C k24 w A3 l3.length l3) (hc3 : l3.length ≤ c3) (hG : Glob w) (h : cardindexlaw08_comes.f a0_0 a0_1 a0_2 a1 a2 l3 = some r) :
    Calls Tryd.prog 21 #[.agg #[.int .u8 a0_0, .int .i64 a0_1, .string a0_2], .string a1, .bool a2, .slice A3 l3.length c3] w fun e w' => e = .returned (.bool r) ∧ Below w.heap.size w w' := by
  have hu24 := Tryd.underlying24
  have HG := Aside0.mk hG
  clear hG
  have HR3 := Aside0.mk hr3
  have HC3 := Aside0.mk hc3
  clear hr3 hc3
  have HB := Aside0.mk (Below.refl w.heap.size w)
  have H : ((cardindexlaw08_of.f a1 a2 l3).bind fun bt149 => (if bt149.2.2.2 = 0 then (some (bt149.1 == a0_0 && (bt149.2.1 == a0_1 && (bt149.2.2.1.toList == a0_2.toList)))) else (some false))) = some r := h
  clear h
  replace H := Option.bind_eq_some_iff.mp H
  obtain ⟨⟨t149, t150, t151, t152⟩, A50, H⟩ := H
  replace H : (if t152 = 0 then (some (t149 == a0_0 && (t150 == a0_1 && (t151.toList == a0_2.toList)))) else (some false)) = some r := H
  have A5 := Aside0.mk A50
  clear A50
  by_cases c6 : t152 = 0
  · rw [if_pos c6] at H
    have c6b0 : (t152 == 0) = true := beq_iff_eq.mpr c6
    have c6b1 : (t152 != 0) = false := bne_eq_false_iff_eq.mpr c6
    clear c6
    obtain rfl := Option.some.inj H
    simp only [Option.some.injEq, Prod.mk.injEq] at H
    obtain ⟨rfl⟩ := H
    go_enter Tryd.func21, Tryd.ntmps21
    go_wp2_with (first | ((with_reducible refine gate_dst (N := 4) rfl ?_); refine box_event ?hg (N := 4) ?hd (cs := #[.int .u8 a0_0, .int .i64 a0_1, .string a0_2]) (t := 24) ?hr ?_; (case hd => rfl); (case hg => rfl); (case hr => first | (go_simp; done) | (go_simp; rfl)); intro gb148 hg w7 hbox hb; have n0_ := Aside0.mk (below_step (by repeat (first | (with_reducible first | exact HB.out | apply below_alloc | apply pw_below_drewN | apply below_drew1) | exact HB.out)) hb); have n1_ := Aside0.mk (hbox); have n2_ := Aside0.mk ((by rw [hg]; exact (below_size (by repeat (first | (with_reducible first | exact HB.out | apply below_alloc | apply pw_below_drewN | apply below_drew1) | exact HB.out))) : w.heap.size ≤ gb148)); have n3_ := Aside0.mk ((by rw [hg]; exact (below_size (by repeat (first | (with_reducible first | exact HB.out | apply below_alloc | apply pw_below_drewN | apply below_drew1) | exact HB.out))) : w.heap.size ≤ gb148)); clear HB; have HB := n0_; have BK148 := n1_; have GW148 := n2_; have GE148 := n3_; clear n0_ n1_ n2_ n3_; clear hb hbox hg) | ((with_reducible refine gate_callee (f := 15) rfl ?_); refine goesL_ (some 15) rfl rfl Tryd.func15 (by kernel_rfl) rfl #[.string a1, .bool a2, .slice A3 l3.length c3] rfl (by (try simp only [List.map_toArray, List.map_cons, List.map_nil]); first | done | rfl | (simp only [List.length_drop, List.length_take]; rfl)) ?_; (with_reducible refine (cardindexlaw08_of.calls a1 a2 _ _ l3 t149 t150 t151 t152 _ ?side1 ?side2 ?side3 A5.out).mono ?_); (case side1 => repeat (first | exact (Kd.C_below HR3.out HB.out) | (with_reducible refine Kd.C_alloc ?_ _) | (with_reducible refine Kd.C_drewN ?_ _) | (with_reducible refine Kd.C_drew ?_))); (case side2 => exact HC3.out); (case side3 => exact Glob.below (by repeat (first | (with_reducible first | exact HB.out | apply below_alloc | apply pw_below_drewN | apply below_drew1 | refine below_set ?_ GE148.out) | exact HB.out)) HG.out); rintro e w8 ⟨rfl, hb⟩; refine ⟨_, rfl, ?_⟩; have n0_ := Aside0.mk (blk_below (g := gb148) (o := .cells #[.int .u8 a0_0, .int .i64 a0_1, .string a0_2] 24 (0, 0)) (by (with_reducible repeat (first | refine blk_drewN ?_ _ | refine blk_drew ?_ | refine blk_alloc ?_ _)); exact BK148.out) hb); have n1_ := Aside0.mk (below_step (by repeat (first | (with_reducible first | exact HB.out | apply below_alloc | apply pw_below_drewN | apply below_drew1 | refine below_set ?_ GE148.out) | exact HB.out)) hb); clear BK148; clear HB; have BK148 := n0_; have HB := n1_; clear n0_ n1_; (try clear hb); (try clear hb2); (try clear hk); (try clear hi)) | ((with_reducible refine gate_dst (N := 9) rfl ?_); refine box_event ?hg (N := 9) ?hd (cs := #[.int .u8 0, .int .i64 0, .string (⟨#[]⟩ : ByteArray)]) (t := 24) ?hr ?_; (case hd => rfl); (case hg => rfl); (case hr => first | (go_simp; done) | (go_simp; rfl)); intro gb153 hg w9 hbox hb; have n0_ := Aside0.mk (blk_below (g := gb148) (o := .cells #[.int .u8 a0_0, .int .i64 a0_1, .string a0_2] 24 (0, 0)) (by (with_reducible repeat (first | refine blk_drewN ?_ _ | refine blk_drew ?_ | refine blk_alloc ?_ _)); exact BK148.out) hb); have n1_ := Aside0.mk (below_step (by repeat (first | (with_reducible first | exact HB.out | apply below_alloc | apply pw_below_drewN | apply below_drew1 | refine below_set ?_ GE148.out) | exact HB.out)) hb); have n2_ := Aside0.mk (hbox); have n3_ := Aside0.mk ((by rw [hg]; exact (below_size (by repeat (first | (with_reducible first | exact HB.out | apply below_alloc | apply pw_below_drewN | apply below_drew1 | refine below_set ?_ GE148.out) | exact HB.out))) : w.heap.size ≤ gb153)); have n4_ := Aside0.mk ((by rw [hg]; exact (below_size (by repeat (first | (with_reducible first | exact HB.out | apply below_alloc | apply pw_below_drewN | apply below_drew1 | refine below_set ?_ GE148.out) | exact HB.out))) : w.heap.size ≤ gb153)); have n5_ := Aside0.mk ((by rw [hg]; exact Nat.ne_of_lt (blk_lt (g := gb148) (o := .cells #[.int .u8 a0_0, .int .i64 a0_1, .string a0_2] 24 (0, 0)) (by (with_reducible repeat (first | refine blk_drewN ?_ _ | refine blk_drew ?_ | refine blk_alloc ?_ _)); exact BK148.out)) : gb148 ≠ gb153)); have n6_ := Aside0.mk ((by rw [hg]; exact Nat.ne_of_gt (blk_lt (g := gb148) (o := .cells #[.int .u8 a0_0, .int .i64 a0_1, .string a0_2] 24 (0, 0)) (by (with_reducible repeat (first | refine blk_drewN ?_ _ | refine blk_drew ?_ | refine blk_alloc ?_ _)); exact BK148.out)) : gb153 ≠ gb148)); clear BK148; clear HB; have BK148 := n0_; have HB := n1_; have BK153 := n2_; have GW153 := n3_; have GE153 := n4_; have NB148_153 := n5_; have NB153_148 := n6_; clear n0_ n1_ n2_ n3_ n4_ n5_ n6_; clear hb hbox hg; have hnb10 := NB153_148.out; have hnc10 := NB148_153.out; have hcz11_0 : w9.cell? ⟨gb153, 0, none⟩ = some (.int .u8 0) := (blk_cell BK153.out 0).trans rfl; have hcz11_1 : w9.cell? ⟨gb153, 1, none⟩ = some (.int .i64 0) := (blk_cell BK153.out 1).trans rfl; have hcz11_2 : w9.cell? ⟨gb153, 2, none⟩ = some (.string (⟨#[]⟩ : ByteArray)) := (blk_cell BK153.out 2).trans rfl; have hfz11_0 := blk_frozen BK153.out 0; have hfz11_1 := blk_frozen BK153.out 1; have hfz11_2 := blk_frozen BK153.out 2; have hcz12_0 : w9.cell? ⟨gb148, 0, none⟩ = some (.int .u8 a0_0) := (blk_cell BK148.out 0).trans rfl; have hcz12_1 : w9.cell? ⟨gb148, 1, none⟩ = some (.int .i64 a0_1) := (blk_cell BK148.out 1).trans rfl; have hcz12_2 : w9.cell? ⟨gb148, 2, none⟩ = some (.string a0_2) := (blk_cell BK148.out 2).trans rfl; have hfz12_0 := blk_frozen BK148.out 0; have hfz12_1 := blk_frozen BK148.out 1; have hfz12_2 := blk_frozen BK148.out 2))
    go_ret
    exact ⟨by first | rfl | (simp [errW_none, errW_some] <;> rfl) | (simp [*, errW_none, errW_some] <;> rfl), by repeat (first | (with_reducible first | exact HB.out | apply below_alloc | apply pw_below_drewN | apply below_drew1 | refine below_set ?_ GE148.out | refine below_set ?_ GE153.out) | exact HB.out)⟩
  · rw [if_neg c6] at H
    have c6b0 : (t152 == 0) = false := beq_eq_false_iff_ne.mpr c6
    have c6b1 : (t152 != 0) = true := bne_iff_ne.mpr c6
    obtain rfl := Option.some.inj H
    simp only [Option.some.injEq, Prod.mk.injEq] at H
    obtain ⟨rfl⟩ := H
    go_enter Tryd.func21, Tryd.ntmps21
    go_wp2_with (first | ((with_reducible refine gate_dst (N := 4) rfl ?_); refine box_event ?hg (N := 4) ?hd (cs := #[.int .u8 a0_0, .int .i64 a0_1, .string a0_2]) (t := 24) ?hr ?_; (case hd => rfl); (case hg => rfl); (case hr => first | (go_simp; done) | (go_simp; rfl)); intro gb148 hg w13 hbox hb; have n0_ := Aside0.mk (below_step (by repeat (first | (with_reducible first | exact HB.out | apply below_alloc | apply pw_below_drewN | apply below_drew1) | exact HB.out)) hb); have n1_ := Aside0.mk (hbox); have n2_ := Aside0.mk ((by rw [hg]; exact (below_size (by repeat (first | (with_reducible first | exact HB.out | apply below_alloc | apply pw_below_drewN | apply below_drew1) | exact HB.out))) : w.heap.size ≤ gb148)); have n3_ := Aside0.mk ((by rw [hg]; exact (below_size (by repeat (first | (with_reducible first | exact HB.out | apply below_alloc | apply pw_below_drewN | apply below_drew1) | exact HB.out))) : w.heap.size ≤ gb148)); clear HB; have HB := n0_; have BK148 := n1_; have GW148 := n2_; have GE148 := n3_; clear n0_ n1_ n2_ n3_; clear hb hbox hg) | ((with_reducible refine gate_callee (f := 15) rfl ?_); refine goesL_ (some 15) rfl rfl Tryd.func15 (by kernel_rfl) rfl #[.string a1, .bool a2, .slice A3 l3.length c3] rfl (by (try simp only [List.map_toArray, List.map_cons, List.map_nil]); first | done | rfl | (simp only [List.length_drop, List.length_take]; rfl)) ?_; (with_reducible refine (cardindexlaw08_of.calls a1 a2 _ _ l3 t149 t150 t151 t152 _ ?side1 ?side2 ?side3 A5.out).mono ?_); (case side1 => repeat (first | exact (Kd.C_below HR3.out HB.out) | (with_reducible refine Kd.C_alloc ?_ _) | (with_reducible refine Kd.C_drewN ?_ _) | (with_reducible refine Kd.C_drew ?_))); (case side2 => exact HC3.out); (case side3 => exact Glob.below (by repeat (first | (with_reducible first | exact HB.out | apply below_alloc | apply pw_below_drewN | apply below_drew1 | refine below_set ?_ GE148.out) | exact HB.out)) HG.out); rintro e w14 ⟨rfl, hb⟩; refine ⟨_, rfl, ?_⟩; have n0_ := Aside0.mk (blk_below (g := gb148) (o := .cells #[.int .u8 a0_0, .int .i64 a0_1, .string a0_2] 24 (0, 0)) (by (with_reducible repeat (first | refine blk_drewN ?_ _ | refine blk_drew ?_ | refine blk_alloc ?_ _)); exact BK148.out) hb); have n1_ := Aside0.mk (below_step (by repeat (first | (with_reducible first | exact HB.out | apply below_alloc | apply pw_below_drewN | apply below_drew1 | refine below_set ?_ GE148.out) | exact HB.out)) hb); clear BK148; clear HB; have BK148 := n0_; have HB := n1_; clear n0_ n1_; (try clear hb); (try clear hb2); (try clear hk); (try clear hi)) | ((with_reducible refine gate_dst (N := 9) rfl ?_); refine box_event ?hg (N := 9) ?hd (cs := #[.int .u8 0, .int .i64 0, .string (⟨#[]⟩ : ByteArray)]) (t := 24) ?hr ?_; (case hd => rfl); (case hg => rfl); (case hr => first | (go_simp; done) | (go_simp; rfl)); intro gb153 hg w15 hbox hb; have n0_ := Aside0.mk (blk_below (g := gb148) (o := .cells #[.int .u8 a0_0, .int .i64 a0_1, .string a0_2] 24 (0, 0)) (by (with_reducible repeat (first | refine blk_drewN ?_ _ | refine blk_drew ?_ | refine blk_alloc ?_ _)); exact BK148.out) hb); have n1_ := Aside0.mk (below_step (by repeat (first | (with_reducible first | exact HB.out | apply below_alloc | apply pw_below_drewN | apply below_drew1 | refine below_set ?_ GE148.out) | exact HB.out)) hb); have n2_ := Aside0.mk (hbox); have n3_ := Aside0.mk ((by rw [hg]; exact (below_size (by repeat (first | (with_reducible first | exact HB.out | apply below_alloc | apply pw_below_drewN | apply below_drew1 | refine below_set ?_ GE148.out) | exact HB.out))) : w.heap.size ≤ gb153)); have n4_ := Aside0.mk ((by rw [hg]; exact (below_size (by repeat (first | (with_reducible first | exact HB.out | apply below_alloc | apply pw_below_drewN | apply below_drew1 | refine below_set ?_ GE148.out) | exact HB.out))) : w.heap.size ≤ gb153)); have n5_ := Aside0.mk ((by rw [hg]; exact Nat.ne_of_lt (blk_lt (g := gb148) (o := .cells #[.int .u8 a0_0, .int .i64 a0_1, .string a0_2] 24 (0, 0)) (by (with_reducible repeat (first | refine blk_drewN ?_ _ | refine blk_drew ?_ | refine blk_alloc ?_ _)); exact BK148.out)) : gb148 ≠ gb153)); have n6_ := Aside0.mk ((by rw [hg]; exact Nat.ne_of_gt (blk_lt (g := gb148) (o := .cells #[.int .u8 a0_0, .int .i64 a0_1, .string a0_2] 24 (0, 0)) (by (with_reducible repeat (first | refine blk_drewN ?_ _ | refine blk_drew ?_ | refine blk_alloc ?_ _)); exact BK148.out)) : gb153 ≠ gb148)); clear BK148; clear HB; have BK148 := n0_; have HB := n1_; have BK153 := n2_; have GW153 := n3_; have GE153 := n4_; have NB148_153 := n5_; have NB153_148 := n6_; clear n0_ n1_ n2_ n3_ n4_ n5_ n6_; clear hb hbox hg; have hnb16 := NB153_148.out; have hnc16 := NB148_153.out; have hcz17_0 : w15.cell? ⟨gb153, 0, none⟩ = some (.int .u8 0) := (blk_cell BK153.out 0).trans rfl; have hcz17_1 : w15.cell? ⟨gb153, 1, none⟩ = some (.int .i64 0) := (blk_cell BK153.out 1).trans rfl; have hcz17_2 : w15.cell? ⟨gb153, 2, none⟩ = some (.string (⟨#[]⟩ : ByteArray)) := (blk_cell BK153.out 2).trans rfl; have hfz17_0 := blk_frozen BK153.out 0; have hfz17_1 := blk_frozen BK153.out 1; have hfz17_2 := blk_frozen BK153.out 2))
    go_ret
    exact ⟨by first | rfl | (simp [errW_none, errW_some] <;> rfl) | (simp [*, errW_none, errW_some] <;> rfl), by repeat (first | (with_reducible first | exact HB.out | apply below_alloc | apply pw_below_drewN | apply below_drew1 | refine below_set ?_ GE148.out | refine below_set ?_ GE153.out) | exact HB.out)⟩

end Go.Proofs.YtjankdoaobklgaaDoor.Q
end
section
namespace Go.Proofs.YtjankdoaobklgaaDoor.Q
open Go.RowKit Go.Proofs.YtjankdoaobklgaaDoorW.PrintWords Go.Proofs.YtjankdoaobklgaaDoorW.PrintLast Go.Proofs.YtjankdoaobklgaaDoorW.PrintMore
attribute [local go_sem] max2_int min2_int max_two min_two max_three min_three max_four min_four   -- for this text's walks alone
set_option linter.unusedVariables false
set_option linter.unusedSimpArgs false

attribute [local go_sem high] eqA24
/-! ### cardindexlaw08_errs: function 25 -/
def cardindexlaw08_errs.f (a0 : Int) (a1 : ByteArray) (l2 : List (S24)) : Option (Bool) := (cardindexlaw08_of.f a1 false l2).bind fun bt154 => (if bt154.2.2.2 = a0 then (some (bt154.1 == 0 && (bt154.2.1 == 0 && (bt154.2.2.1.toList == ([] : List UInt8))))) else (some false))
set_option maxHeartbeats 8000000 in
set_option maxRecDepth 100000 in
theorem cardindexlaw08_errs.calls (a0 : Int) (a1 : ByteArray) (A2 : Option Addr) (c2 : Nat) (l2 : List (S24)) (r : Bool) (w : World) (hr2 : Kd.C k24 w A2 l2.length l2) (hc2 : l2.length ≤ c2) (hG : Glob w) (h : cardindexlaw08_errs.f a0 a1 l2 = some r) :
    Calls Tryd.prog 25 #[.int .i64 a0, .string a1, .slice A2 l2.length c2] w fun e w' => e = .returned (.bool r) ∧ Below w.heap.size w w' := by
  have hu24 := Tryd.underlying24
  have HG := Aside0.mk hG
  clear hG
  have HR2 := Aside0.mk hr2
  have HC2 := Aside0.mk hc2
  clear hr2 hc2
  have HB := Aside0.mk (Below.refl w.heap.size w)
  have H : ((cardindexlaw08_of.f a1 false l2).bind fun bt154 => (if bt154.2.2.2 = a0 then (some (bt154.1 == 0 && (bt154.2.1 == 0 && (bt154.2.2.1.toList == ([] : List UInt8))))) else (some false))) = some r := h
  clear h
  replace H := Option.bind_eq_some_iff.mp H
  obtain ⟨⟨t154, t155, t156, t157⟩, A40, H⟩ := H
  replace H : (if t157 = a0 then (some (t154 == 0 && (t155 == 0 && (t156.toList == ([] : List UInt8))))) else (some false)) = some r := H
  have A4 := Aside0.mk A40
  clear A40
  by_cases c5 : t157 = a0
  · rw [if_pos c5] at H
    have c5b0 : (t157 == a0) = true := beq_iff_eq.mpr c5
    have c5b1 : (t157 != a0) = false := bne_eq_false_iff_eq.mpr c5
    clear c5
    obtain rfl := Option.some.inj H
    simp only [Option.some.injEq, Prod.mk.injEq] at H
    obtain ⟨rfl⟩ := H
    go_enter Tryd.func25, Tryd.ntmps25
    go_wp2_with (first | ((with_reducible refine gate_callee (f := 15) rfl ?_); refine goesL_ (some 12) rfl rfl Tryd.func15 (by kernel_rfl) rfl #[.string a1, .bool false, .slice A2 l2.length c2] rfl (by (try simp only [List.map_toArray, List.map_cons, List.map_nil]); first | done | rfl | (simp only [List.length_drop, List.length_take]; rfl)) ?_; (with_reducible refine (cardindexlaw08_of.calls a1 false _ _ l2 t154 t155 t156 t157 _ ?side1 ?side2 ?side3 A4.out).mono ?_); (case side1 => repeat (first | exact HR2.out | (with_reducible refine Kd.C_alloc ?_ _) | (with_reducible refine Kd.C_drewN ?_ _) | (with_reducible refine Kd.C_drew ?_))); (case side2 => exact HC2.out); (case side3 => exact Glob.below (by repeat (first | (with_reducible first | exact HB.out | apply below_alloc | apply pw_below_drewN | apply below_drew1) | exact HB.out)) HG.out); rintro e w6 ⟨rfl, hb⟩; refine ⟨_, rfl, ?_⟩; have n0_ := Aside0.mk (below_step (by repeat (first | (with_reducible first | exact HB.out | apply below_alloc | apply pw_below_drewN | apply below_drew1) | exact HB.out)) hb); clear HB; have HB := n0_; clear n0_; (try clear hb); (try clear hb2); (try clear hk); (try clear hi)) | ((with_reducible refine gate_dst (N := 7) rfl ?_); refine box_event ?hg (N := 7) ?hd (cs := #[.int .u8 0, .int .i64 0, .string (⟨#[]⟩ : ByteArray)]) (t := 24) ?hr ?_; (case hd => rfl); (case hg => rfl); (case hr => first | (go_simp; done) | (go_simp; rfl)); intro gb158 hg w7 hbox hb; have n0_ := Aside0.mk (below_step (by repeat (first | (with_reducible first | exact HB.out | apply below_alloc | apply pw_below_drewN | apply below_drew1) | exact HB.out)) hb); have n1_ := Aside0.mk (hbox); have n2_ := Aside0.mk ((by rw [hg]; exact (below_size (by repeat (first | (with_reducible first | exact HB.out | apply below_alloc | apply pw_below_drewN | apply below_drew1) | exact HB.out))) : w.heap.size ≤ gb158)); have n3_ := Aside0.mk ((by rw [hg]; exact (below_size (by repeat (first | (with_reducible first | exact HB.out | apply below_alloc | apply pw_below_drewN | apply below_drew1) | exact HB.out))) : w.heap.size ≤ gb158)); clear HB; have HB := n0_; have BK158 := n1_; have GW158 := n2_; have GE158 := n3_; clear n0_ n1_ n2_ n3_; clear hb hbox hg; have hcz8_0 : w7.cell? ⟨gb158, 0, none⟩ = some (.int .u8 0) := (blk_cell BK158.out 0).trans rfl; have hcz8_1 : w7.cell? ⟨gb158, 1, none⟩ = some (.int .i64 0) := (blk_cell BK158.out 1).trans rfl; have hcz8_2 : w7.cell? ⟨gb158, 2, none⟩ = some (.string (⟨#[]⟩ : ByteArray)) := (blk_cell BK158.out 2).trans rfl; have hfz8_0 := blk_frozen BK158.out 0; have hfz8_1 := blk_frozen BK158.out 1; have hfz8_2 := blk_frozen BK158.out 2))
    go_ret
    exact ⟨by first | rfl | (simp [errW_none, errW_some] <;> rfl) | (simp [*, errW_none, errW_some] <;> rfl), by repeat (first | (with_reducible first | exact HB.out | apply below_alloc | apply pw_below_drewN | apply below_drew1 | refine below_set ?_ GE158.out) | exact HB.out)⟩
  · rw [if_neg c5] at H
    have c5b0 : (t157 == a0) = false := beq_eq_false_iff_ne.mpr c5
    have c5b1 : (t157 != a0) = true := bne_iff_ne.mpr c5
    obtain rfl := Option.some.inj H
    simp only [Option.some.injEq, Prod.mk.injEq] at H
    obtain ⟨rfl⟩ := H
    go_enter Tryd.func25, Tryd.ntmps25
    go_wp2_with (first | ((with_reducible refine gate_callee (f := 15) rfl ?_); refine goesL_ (some 12) rfl rfl Tryd.func15 (by kernel_rfl) rfl #[.string a1, .bool false, .slice A2 l2.length c2] rfl (by (try simp only [List.map_toArray, List.map_cons, List.map_nil]); first | done | rfl | (simp only [List.length_drop, List.length_take]; rfl)) ?_; (with_reducible refine (cardindexlaw08_of.calls a1 false _ _ l2 t154 t155 t156 t157 _ ?side1 ?side2 ?side3 A4.out).mono ?_); (case side1 => repeat (first | exact HR2.out | (with_reducible refine Kd.C_alloc ?_ _) | (with_reducible refine Kd.C_drewN ?_ _) | (with_reducible refine Kd.C_drew ?_))); (case side2 => exact HC2.out); (case side3 => exact Glob.below (by repeat (first | (with_reducible first | exact HB.out | apply below_alloc | apply pw_below_drewN | apply below_drew1) | exact HB.out)) HG.out); rintro e w9 ⟨rfl, hb⟩; refine ⟨_, rfl, ?_⟩; have n0_ := Aside0.mk (below_step (by repeat (first | (with_reducible first | exact HB.out | apply below_alloc | apply pw_below_drewN | apply below_drew1) | exact HB.out)) hb); clear HB; have HB := n0_; clear n0_; (try clear hb); (try clear hb2); (try clear hk); (try clear hi)) | ((with_reducible refine gate_dst (N := 7) rfl ?_); refine box_event ?hg (N := 7) ?hd (cs := #[.int .u8 0, .int .i64 0, .string (⟨#[]⟩ : ByteArray)]) (t := 24) ?hr ?_; (case hd => rfl); (case hg => rfl); (case hr => first | (go_simp; done) | (go_simp; rfl)); intro gb158 hg w10 hbox hb; have n0_ := Aside0.mk (below_step (by repeat (first | (with_reducible first | exact HB.out | apply below_alloc | apply pw_below_drewN | apply below_drew1) | exact HB.out)) hb); have n1_ := Aside0.mk (hbox); have n2_ := Aside0.mk ((by rw [hg]; exact (below_size (by repeat (first | (with_reducible first | exact HB.out | apply below_alloc | apply pw_below_drewN | apply below_drew1) | exact HB.out))) : w.heap.size ≤ gb158)); have n3_ := Aside0.mk ((by rw [hg]; exact (below_size (by repeat (first | (with_reducible first | exact HB.out | apply below_alloc | apply pw_below_drewN | apply below_drew1) | exact HB.out))) : w.heap.size ≤ gb158)); clear HB; have HB := n0_; have BK158 := n1_; have GW158 := n2_; have GE158 := n3_; clear n0_ n1_ n2_ n3_; clear hb hbox hg; have hcz11_0 : w10.cell? ⟨gb158, 0, none⟩ = some (.int .u8 0) := (blk_cell BK158.out 0).trans rfl; have hcz11_1 : w10.cell? ⟨gb158, 1, none⟩ = some (.int .i64 0) := (blk_cell BK158.out 1).trans rfl; have hcz11_2 : w10.cell? ⟨gb158, 2, none⟩ = some (.string (⟨#[]⟩ : ByteArray)) := (blk_cell BK158.out 2).trans rfl; have hfz11_0 := blk_frozen BK158.out 0; have hfz11_1 := blk_frozen BK158.out 1; have hfz11_2 := blk_frozen BK158.out 2))
    go_ret
    exact ⟨by first | rfl | (simp [errW_none, errW_some] <;> rfl) | (simp [*, errW_none, errW_some] <;> rfl), by repeat (first | (with_reducible first | exact HB.out | apply below_alloc | apply pw_below_drewN | apply below_drew1 | refine below_set ?_ GE158.out) | exact HB.out)⟩

end Go.Proofs.YtjankdoaobklgaaDoor.Q
end
section
namespace Go.Proofs.YtjankdoaobklgaaDoor.Q
open Go.RowKit Go.Proofs.YtjankdoaobklgaaDoorW.PrintWords Go.Proofs.YtjankdoaobklgaaDoorW.PrintLast Go.Proofs.YtjankdoaobklgaaDoorW.PrintMore
attribute [local go_sem] max2_int min2_int max_two min_two max_three min_three max_four min_four   -- for this text's walks alone
set_option linter.unusedVariables false
set_option linter.unusedSimpArgs false

/-! ### cardindexlow_Num: function 38 -/
def cardindexlow_Num.f (a0 : Int) : Option (Int × Int × ByteArray) := some (1, a0, (⟨#[]⟩ : ByteArray))
set_option maxHeartbeats 8000000 in
set_option maxRecDepth 100000 in
theorem cardindexlow_Num.calls (a0 : Int) (r1 : Int) (r2 : Int) (r3 : ByteArray) (w : World) (h : cardindexlow_Num.f a0 = some (r1, r2, r3)) :
    Calls Tryd.prog 38 #[.int .i64 a0] w fun e w' => e = .returned (.agg #[.int .u8 r1, .int .i64 r2, .string r3]) ∧ Below w.heap.size w w' := by
  have hu24 := Tryd.underlying24
  have HB := Aside0.mk (Below.refl w.heap.size w)
  have H : (some (1, a0, (⟨#[]⟩ : ByteArray))) = some (r1, r2, r3) := h
  clear h
  simp only [Option.some.injEq, Prod.mk.injEq] at H
  obtain ⟨rfl, rfl, rfl⟩ := H
  go_enter Tryd.func38, Tryd.ntmps38
  go_wp2_with (first | ((with_reducible refine gate_dst (N := 2) rfl ?_); refine box_event ?hg (N := 2) ?hd (cs := #[.int .u8 0, .int .i64 0, .string (⟨#[]⟩ : ByteArray)]) (t := 24) ?hr ?_; (case hd => rfl); (case hg => rfl); (case hr => first | (go_simp; done) | (go_simp; rfl)); intro gb101 hg w2 hbox hb; have n0_ := Aside0.mk (below_step (by repeat (first | (with_reducible first | exact HB.out | apply below_alloc | apply pw_below_drewN | apply below_drew1) | exact HB.out)) hb); have n1_ := Aside0.mk (hbox); have n2_ := Aside0.mk ((by rw [hg]; exact (below_size (by repeat (first | (with_reducible first | exact HB.out | apply below_alloc | apply pw_below_drewN | apply below_drew1) | exact HB.out))) : w.heap.size ≤ gb101)); have n3_ := Aside0.mk ((by rw [hg]; exact (below_size (by repeat (first | (with_reducible first | exact HB.out | apply below_alloc | apply pw_below_drewN | apply below_drew1) | exact HB.out))) : w.heap.size ≤ gb101)); clear HB; have HB := n0_; have BK101 := n1_; have GW101 := n2_; have GE101 := n3_; clear n0_ n1_ n2_ n3_; clear hb hbox hg; have hcz3_0 : w2.cell? ⟨gb101, 0, none⟩ = some (.int .u8 0) := (blk_cell BK101.out 0).trans rfl; have hcz3_1 : w2.cell? ⟨gb101, 1, none⟩ = some (.int .i64 0) := (blk_cell BK101.out 1).trans rfl; have hcz3_2 : w2.cell? ⟨gb101, 2, none⟩ = some (.string (⟨#[]⟩ : ByteArray)) := (blk_cell BK101.out 2).trans rfl; have hfz3_0 := blk_frozen BK101.out 0; have hfz3_1 := blk_frozen BK101.out 1; have hfz3_2 := blk_frozen BK101.out 2))
  refine bodyPost_ret (results_cell_row rfl _ _ gb101 24 #[.int .u8 1, .int .i64 a0, .string (⟨#[]⟩ : ByteArray)] (0, 0) _ rfl (by (with_reducible repeat (first | refine blk_drewN ?_ _ | refine blk_drew ?_ | refine blk_alloc ?_ _)); refine blk_put (cs := #[.int .u8 1, .int .i64 a0, .string (⟨#[]⟩ : ByteArray)]) ?_ 2 _ rfl; (with_reducible repeat (first | refine blk_drewN ?_ _ | refine blk_drew ?_ | refine blk_alloc ?_ _)); refine blk_put (cs := #[.int .u8 1, .int .i64 0, .string (⟨#[]⟩ : ByteArray)]) ?_ 1 _ rfl; (with_reducible repeat (first | refine blk_drewN ?_ _ | refine blk_drew ?_ | refine blk_alloc ?_ _)); refine blk_put (cs := #[.int .u8 0, .int .i64 0, .string (⟨#[]⟩ : ByteArray)]) ?_ 0 _ rfl; (with_reducible repeat (first | refine blk_drewN ?_ _ | refine blk_drew ?_ | refine blk_alloc ?_ _)); exact BK101.out) Tryd.underlying24 rfl (by kernel_rfl)) rfl ?_
  exact ⟨by first | rfl | (simp [errW_none, errW_some] <;> rfl) | (simp [*, errW_none, errW_some] <;> rfl), by repeat (first | (with_reducible first | exact HB.out | apply below_alloc | apply pw_below_drewN | apply below_drew1 | refine below_set ?_ GE101.out) | exact HB.out)⟩

end Go.Proofs.YtjankdoaobklgaaDoor.Q
end
section
namespace Go.Proofs.YtjankdoaobklgaaDoor.Q
open Go.RowKit Go.Proofs.YtjankdoaobklgaaDoorW.PrintWords Go.Proofs.YtjankdoaobklgaaDoorW.PrintLast Go.Proofs.YtjankdoaobklgaaDoorW.PrintMore
attribute [local go_sem] max2_int min2_int max_two min_two max_three min_three max_four min_four   -- for this text's walks alone
set_option linter.unusedVariables false
set_option linter.unusedSimpArgs false

/-! ### cardindexlaw08_num: function 17 -/
def cardindexlaw08_num.f (a0 : Int) : Option (Int × Int × ByteArray) := (cardindexlow_Num.f a0).bind fun bt103 => (some (bt103.1, bt103.2.1, bt103.2.2))
set_option maxHeartbeats 8000000 in
set_option maxRecDepth 100000 in
theorem cardindexlaw08_num.calls (a0 : Int) (r1 : Int) (r2 : Int) (r3 : ByteArray) (w : World) (h : cardindexlaw08_num.f a0 = some (r1, r2, r3)) :
    Calls Tryd.prog 17 #[.int .i64 a0] w fun e w' => e = .returned (.agg #[.int .u8 r1, .int .i64 r2, .string r3]) ∧ Below w.heap.size w w' := by
  have hu24 := Tryd.underlying24
  have HB := Aside0.mk (Below.refl w.heap.size w)
  have H : ((cardindexlow_Num.f a0).bind fun bt103 => (some (bt103.1, bt103.2.1, bt103.2.2))) = some (r1, r2, r3) := h
  clear h
  replace H := Option.bind_eq_some_iff.mp H
  obtain ⟨⟨t103, t104, t105⟩, A20, H⟩ := H
  replace H : (some (t103, t104, t105)) = some (r1, r2, r3) := H
  have A2 := Aside0.mk A20
  clear A20
  simp only [Option.some.injEq, Prod.mk.injEq] at H
  obtain ⟨rfl, rfl, rfl⟩ := H
  go_enter Tryd.func17, Tryd.ntmps17
  go_wp2_with (first | ((with_reducible refine gate_dst (N := 2) rfl ?_); refine box_event ?hg (N := 2) ?hd (cs := #[.int .u8 0, .int .i64 0, .string (⟨#[]⟩ : ByteArray)]) (t := 24) ?hr ?_; (case hd => rfl); (case hg => rfl); (case hr => first | (go_simp; done) | (go_simp; rfl)); intro gb102 hg w3 hbox hb; have n0_ := Aside0.mk (below_step (by repeat (first | (with_reducible first | exact HB.out | apply below_alloc | apply pw_below_drewN | apply below_drew1) | exact HB.out)) hb); have n1_ := Aside0.mk (hbox); have n2_ := Aside0.mk ((by rw [hg]; exact (below_size (by repeat (first | (with_reducible first | exact HB.out | apply below_alloc | apply pw_below_drewN | apply below_drew1) | exact HB.out))) : w.heap.size ≤ gb102)); have n3_ := Aside0.mk ((by rw [hg]; exact (below_size (by repeat (first | (with_reducible first | exact HB.out | apply below_alloc | apply pw_below_drewN | apply below_drew1) | exact HB.out))) : w.heap.size ≤ gb102)); clear HB; have HB := n0_; have BK102 := n1_; have GW102 := n2_; have GE102 := n3_; clear n0_ n1_ n2_ n3_; clear hb hbox hg) | ((with_reducible refine gate_callee (f := 38) rfl ?_); refine goesL_ (some 4) rfl rfl Tryd.func38 (by kernel_rfl) rfl #[.int .i64 a0] rfl (by (try simp only [List.map_toArray, List.map_cons, List.map_nil]); first | done | rfl | (simp only [List.length_drop, List.length_take]; rfl)) ?_; (with_reducible refine (cardindexlow_Num.calls a0 t103 t104 t105 _ A2.out).mono ?_); rintro e w4 ⟨rfl, hb⟩; refine ⟨_, rfl, ?_⟩; have n0_ := Aside0.mk (blk_below (g := gb102) (o := .cells #[.int .u8 0, .int .i64 0, .string (⟨#[]⟩ : ByteArray)] 24 (0, 0)) (by (with_reducible repeat (first | refine blk_drewN ?_ _ | refine blk_drew ?_ | refine blk_alloc ?_ _)); exact BK102.out) hb); have n1_ := Aside0.mk (below_step (by repeat (first | (with_reducible first | exact HB.out | apply below_alloc | apply pw_below_drewN | apply below_drew1 | refine below_set ?_ GE102.out) | exact HB.out)) hb); clear BK102; clear HB; have BK102 := n0_; have HB := n1_; clear n0_ n1_; (try clear hb); (try clear hb2); (try clear hk); (try clear hi); have hcz5_0 : w4.cell? ⟨gb102, 0, none⟩ = some (.int .u8 0) := (blk_cell BK102.out 0).trans rfl; have hcz5_1 : w4.cell? ⟨gb102, 1, none⟩ = some (.int .i64 0) := (blk_cell BK102.out 1).trans rfl; have hcz5_2 : w4.cell? ⟨gb102, 2, none⟩ = some (.string (⟨#[]⟩ : ByteArray)) := (blk_cell BK102.out 2).trans rfl; have hfz5_0 := blk_frozen BK102.out 0; have hfz5_1 := blk_frozen BK102.out 1; have hfz5_2 := blk_frozen BK102.out 2))
  refine bodyPost_ret (results_cell_row rfl _ _ gb102 24 #[.int .u8 t103, .int .i64 t104, .string t105] (0, 0) _ rfl (by (with_reducible repeat (first | refine blk_drewN ?_ _ | refine blk_drew ?_ | refine blk_alloc ?_ _)); refine blk_put (cs := #[.int .u8 t103, .int .i64 t104, .string (⟨#[]⟩ : ByteArray)]) ?_ 2 _ rfl; (with_reducible repeat (first | refine blk_drewN ?_ _ | refine blk_drew ?_ | refine blk_alloc ?_ _)); refine blk_put (cs := #[.int .u8 t103, .int .i64 0, .string (⟨#[]⟩ : ByteArray)]) ?_ 1 _ rfl; (with_reducible repeat (first | refine blk_drewN ?_ _ | refine blk_drew ?_ | refine blk_alloc ?_ _)); refine blk_put (cs := #[.int .u8 0, .int .i64 0, .string (⟨#[]⟩ : ByteArray)]) ?_ 0 _ rfl; (with_reducible repeat (first | refine blk_drewN ?_ _ | refine blk_drew ?_ | refine blk_alloc ?_ _)); exact BK102.out) Tryd.underlying24 rfl (by kernel_rfl)) rfl ?_
  exact ⟨by first | rfl | (simp [errW_none, errW_some] <;> rfl) | (simp [*, errW_none, errW_some] <;> rfl), by repeat (first | (with_reducible first | exact HB.out | apply below_alloc | apply pw_below_drewN | apply below_drew1 | refine below_set ?_ GE102.out) | exact HB.out)⟩

end Go.Proofs.YtjankdoaobklgaaDoor.Q
end
section
namespace Go.Proofs.YtjankdoaobklgaaDoor.Q
open Go.RowKit Go.Proofs.YtjankdoaobklgaaDoorW.PrintWords Go.Proofs.YtjankdoaobklgaaDoorW.PrintLast Go.Proofs.YtjankdoaobklgaaDoorW.PrintMore
attribute [local go_sem] max2_int min2_int max_two min_two max_three min_three max_four min_four   -- for this text's walks alone
set_option linter.unusedVariables false
set_option linter.unusedSimpArgs false

/-! ### cardindexlow_Text: function 41 -/
def cardindexlow_Text.f (a0 : ByteArray) : Option (Int × Int × ByteArray) := some (2, 0, a0)
set_option maxHeartbeats 8000000 in
set_option maxRecDepth 100000 in
theorem cardindexlow_Text.calls (a0 : ByteArray) (r1 : Int) (r2 : Int) (r3 : ByteArray) (w : World) (h : cardindexlow_Text.f a0 = some (r1, r2, r3)) :
    Calls Tryd.prog 41 #[.string a0] w fun e w' => e = .returned (.agg #[.int .u8 r1, .int .i64 r2, .string r3]) ∧ Below w.heap.size w w' := by
  have hu24 := Tryd.underlying24
  have HB := Aside0.mk (Below.refl w.heap.size w)
  have H : (some (2, 0, a0)) = some (r1, r2, r3) := h
  clear h
  simp only [Option.some.injEq, Prod.mk.injEq] at H
  obtain ⟨rfl, rfl, rfl⟩ := H
  go_enter Tryd.func41, Tryd.ntmps41
  go_wp2_with (first | ((with_reducible refine gate_dst (N := 2) rfl ?_); refine box_event ?hg (N := 2) ?hd (cs := #[.int .u8 0, .int .i64 0, .string (⟨#[]⟩ : ByteArray)]) (t := 24) ?hr ?_; (case hd => rfl); (case hg => rfl); (case hr => first | (go_simp; done) | (go_simp; rfl)); intro gb106 hg w2 hbox hb; have n0_ := Aside0.mk (below_step (by repeat (first | (with_reducible first | exact HB.out | apply below_alloc | apply pw_below_drewN | apply below_drew1) | exact HB.out)) hb); have n1_ := Aside0.mk (hbox); have n2_ := Aside0.mk ((by rw [hg]; exact (below_size (by repeat (first | (with_reducible first | exact HB.out | apply below_alloc | apply pw_below_drewN | apply below_drew1) | exact HB.out))) : w.heap.size ≤ gb106)); have n3_ := Aside0.mk ((by rw [hg]; exact (below_size (by repeat (first | (with_reducible first | exact HB.out | apply below_alloc | apply pw_below_drewN | apply below_drew1) | exact HB.out))) : w.heap.size ≤ gb106)); clear HB; have HB := n0_; have BK106 := n1_; have GW106 := n2_; have GE106 := n3_; clear n0_ n1_ n2_ n3_; clear hb hbox hg; have hcz3_0 : w2.cell? ⟨gb106, 0, none⟩ = some (.int .u8 0) := (blk_cell BK106.out 0).trans rfl; have hcz3_1 : w2.cell? ⟨gb106, 1, none⟩ = some (.int .i64 0) := (blk_cell BK106.out 1).trans rfl; have hcz3_2 : w2.cell? ⟨gb106, 2, none⟩ = some (.string (⟨#[]⟩ : ByteArray)) := (blk_cell BK106.out 2).trans rfl; have hfz3_0 := blk_frozen BK106.out 0; have hfz3_1 := blk_frozen BK106.out 1; have hfz3_2 := blk_frozen BK106.out 2))
  refine bodyPost_ret (results_cell_row rfl _ _ gb106 24 #[.int .u8 2, .int .i64 0, .string a0] (0, 0) _ rfl (by (with_reducible repeat (first | refine blk_drewN ?_ _ | refine blk_drew ?_ | refine blk_alloc ?_ _)); refine blk_put (cs := #[.int .u8 2, .int .i64 0, .string (⟨#[]⟩ : ByteArray)]) ?_ 2 _ rfl; (with_reducible repeat (first | refine blk_drewN ?_ _ | refine blk_drew ?_ | refine blk_alloc ?_ _)); refine blk_put (cs := #[.int .u8 2, .int .i64 0, .string (⟨#[]⟩ : ByteArray)]) ?_ 1 _ rfl; (with_reducible repeat (first | refine blk_drewN ?_ _ | refine blk_drew ?_ | refine blk_alloc ?_ _)); refine blk_put (cs := #[.int .u8 0, .int .i64 0, .string (⟨#[]⟩ : ByteArray)]) ?_ 0 _ rfl; (with_reducible repeat (first | refine blk_drewN ?_ _ | refine blk_drew ?_ | refine blk_alloc ?_ _)); exact BK106.out) Tryd.underlying24 rfl (by kernel_rfl)) rfl ?_
  exact ⟨by first | rfl | (simp [errW_none, errW_some] <;> rfl) | (simp [*, errW_none, errW_some] <;> rfl), by repeat (first | (with_reducible first | exact HB.out | apply below_alloc | apply pw_below_drewN | apply below_drew1 | refine below_set ?_ GE106.out) | exact HB.out)⟩

end Go.Proofs.YtjankdoaobklgaaDoor.Q
end
section
namespace Go.Proofs.YtjankdoaobklgaaDoor.Q
open Go.RowKit Go.Proofs.YtjankdoaobklgaaDoorW.PrintWords Go.Proofs.YtjankdoaobklgaaDoorW.PrintLast Go.Proofs.YtjankdoaobklgaaDoorW.PrintMore
attribute [local go_sem] max2_int min2_int max_two min_two max_three min_three max_four min_four   -- for this text's walks alone
set_option linter.unusedVariables false
set_option linter.unusedSimpArgs false

/-! ### cardindexlaw08_text: function 19 -/
def cardindexlaw08_text.f (a0 : ByteArray) : Option (Int × Int × ByteArray) := (cardindexlow_Text.f a0).bind fun bt108 => (some (bt108.1, bt108.2.1, bt108.2.2))
set_option maxHeartbeats 8000000 in
set_option maxRecDepth 100000 in
theorem cardindexlaw08_text.calls (a0 : ByteArray) (r1 : Int) (r2 : Int) (r3 : ByteArray) (w : World) (h : cardindexlaw08_text.f a0 = some (r1, r2, r3)) :
    Calls Tryd.prog 19 #[.string a0] w fun e w' => e = .returned (.agg #[.int .u8 r1, .int .i64 r2, .string r3]) ∧ Below w.heap.size w w' := by
  have hu24 := Tryd.underlying24
  have HB := Aside0.mk (Below.refl w.heap.size w)
  have H : ((cardindexlow_Text.f a0).bind fun bt108 => (some (bt108.1, bt108.2.1, bt108.2.2))) = some (r1, r2, r3) := h
  clear h
  replace H := Option.bind_eq_some_iff.mp H
  obtain ⟨⟨t108, t109, t110⟩, A20, H⟩ := H
  replace H : (some (t108, t109, t110)) = some (r1, r2, r3) := H
  have A2 := Aside0.mk A20
  clear A20
  simp only [Option.some.injEq, Prod.mk.injEq] at H
  obtain ⟨rfl, rfl, rfl⟩ := H
  go_enter Tryd.func19, Tryd.ntmps19
  go_wp2_with (first | ((with_reducible refine gate_dst (N := 2) rfl ?_); refine box_event ?hg (N := 2) ?hd (cs := #[.int .u8 0, .int .i64 0, .string (⟨#[]⟩ : ByteArray)]) (t := 24) ?hr ?_; (case hd => rfl); (case hg => rfl); (case hr => first | (go_simp; done) | (go_simp; rfl)); intro gb107 hg w3 hbox hb; have n0_ := Aside0.mk (below_step (by repeat (first | (with_reducible first | exact HB.out | apply below_alloc | apply pw_below_drewN | apply below_drew1) | exact HB.out)) hb); have n1_ := Aside0.mk (hbox); have n2_ := Aside0.mk ((by rw [hg]; exact (below_size (by repeat (first | (with_reducible first | exact HB.out | apply below_alloc | apply pw_below_drewN | apply below_drew1) | exact HB.out))) : w.heap.size ≤ gb107)); have n3_ := Aside0.mk ((by rw [hg]; exact (below_size (by repeat (first | (with_reducible first | exact HB.out | apply below_alloc | apply pw_below_drewN | apply below_drew1) | exact HB.out))) : w.heap.size ≤ gb107)); clear HB; have HB := n0_; have BK107 := n1_; have GW107 := n2_; have GE107 := n3_; clear n0_ n1_ n2_ n3_; clear hb hbox hg) | ((with_reducible refine gate_callee (f := 41) rfl ?_); refine goesL_ (some 4) rfl rfl Tryd.func41 (by kernel_rfl) rfl #[.string a0] rfl (by (try simp only [List.map_toArray, List.map_cons, List.map_nil]); first | done | rfl | (simp only [List.length_drop, List.length_take]; rfl)) ?_; (with_reducible refine (cardindexlow_Text.calls a0 t108 t109 t110 _ A2.out).mono ?_); rintro e w4 ⟨rfl, hb⟩; refine ⟨_, rfl, ?_⟩; have n0_ := Aside0.mk (blk_below (g := gb107) (o := .cells #[.int .u8 0, .int .i64 0, .string (⟨#[]⟩ : ByteArray)] 24 (0, 0)) (by (with_reducible repeat (first | refine blk_drewN ?_ _ | refine blk_drew ?_ | refine blk_alloc ?_ _)); exact BK107.out) hb); have n1_ := Aside0.mk (below_step (by repeat (first | (with_reducible first | exact HB.out | apply below_alloc | apply pw_below_drewN | apply below_drew1 | refine below_set ?_ GE107.out) | exact HB.out)) hb); clear BK107; clear HB; have BK107 := n0_; have HB := n1_; clear n0_ n1_; (try clear hb); (try clear hb2); (try clear hk); (try clear hi); have hcz5_0 : w4.cell? ⟨gb107, 0, none⟩ = some (.int .u8 0) := (blk_cell BK107.out 0).trans rfl; have hcz5_1 : w4.cell? ⟨gb107, 1, none⟩ = some (.int .i64 0) := (blk_cell BK107.out 1).trans rfl; have hcz5_2 : w4.cell? ⟨gb107, 2, none⟩ = some (.string (⟨#[]⟩ : ByteArray)) := (blk_cell BK107.out 2).trans rfl; have hfz5_0 := blk_frozen BK107.out 0; have hfz5_1 := blk_frozen BK107.out 1; have hfz5_2 := blk_frozen BK107.out 2))
  refine bodyPost_ret (results_cell_row rfl _ _ gb107 24 #[.int .u8 t108, .int .i64 t109, .string t110] (0, 0) _ rfl (by (with_reducible repeat (first | refine blk_drewN ?_ _ | refine blk_drew ?_ | refine blk_alloc ?_ _)); refine blk_put (cs := #[.int .u8 t108, .int .i64 t109, .string (⟨#[]⟩ : ByteArray)]) ?_ 2 _ rfl; (with_reducible repeat (first | refine blk_drewN ?_ _ | refine blk_drew ?_ | refine blk_alloc ?_ _)); refine blk_put (cs := #[.int .u8 t108, .int .i64 0, .string (⟨#[]⟩ : ByteArray)]) ?_ 1 _ rfl; (with_reducible repeat (first | refine blk_drewN ?_ _ | refine blk_drew ?_ | refine blk_alloc ?_ _)); refine blk_put (cs := #[.int .u8 0, .int .i64 0, .string (⟨#[]⟩ : ByteArray)]) ?_ 0 _ rfl; (with_reducible repeat (first | refine blk_drewN ?_ _ | refine blk_drew ?_ | refine blk_alloc ?_ _)); exact BK107.out) Tryd.underlying24 rfl (by kernel_rfl)) rfl ?_
  exact ⟨by first | rfl | (simp [errW_none, errW_some] <;> rfl) | (simp [*, errW_none, errW_some] <;> rfl), by repeat (first | (with_reducible first | exact HB.out | apply below_alloc | apply pw_below_drewN | apply below_drew1 | refine below_set ?_ GE107.out) | exact HB.out)⟩

end Go.Proofs.YtjankdoaobklgaaDoor.Q
end
