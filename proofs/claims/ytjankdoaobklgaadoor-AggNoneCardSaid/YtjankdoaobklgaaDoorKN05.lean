import Derived.Test.YtjankdoaobklgaaDoorKN04
import Derived.BigRegion
import Derived.Deep.CutRange
section
namespace Go.Proofs.YtjankdoaobklgaaDoor.Q
open Go.RowKit Go.Proofs.YtjankdoaobklgaaDoorW.PrintWords Go.Proofs.YtjankdoaobklgaaDoorW.PrintLast Go.Proofs.YtjankdoaobklgaaDoorW.PrintMore

theorem insJ_stop {a j : Nat} {zs ys : List S24} (h : insJ a j zs = some ys) (hj : j ≤ a) : ys = zs := by
  cases j with
  | zero => exact (Option.some.inj h).symm
  | succ j => unfold insJ at h; rw [if_pos hj] at h; exact (Option.some.inj h).symm
theorem insJ_step {a j : Nat} {zs ys : List S24} (h : insJ a (j + 1) zs = some ys) (hj : a < j + 1) : ∃ c, cmpO (vAt zs (j + 1)) (vAt zs j) = some c ∧ ((c < 0 ∧ insJ a j (swapAt zs j) = some ys) ∨ (¬ c < 0 ∧ ys = zs)) := by
  unfold insJ at h
  rw [if_neg (by omega)] at h
  obtain ⟨c, hc, h⟩ := Option.bind_eq_some_iff.1 h
  refine ⟨c, hc, ?_⟩
  split at h
  · rename_i hn; exact .inl ⟨hn, h⟩
  · rename_i hn; exact .inr ⟨hn, (Option.some.inj h).symm⟩

set_option maxHeartbeats 8000000 in
set_option maxRecDepth 100000 in
theorem sort_ins (b c a e : Nat) (xs r : List S24) (w0 w : World) (h : Srt w0 w b xs) (hlen : xs.length ≤ 1000000) (hae : a ≤ e) (he : e ≤ xs.length) (hr : insI a (e - (a + 1)) (a + 1) xs = some r) :
    Calls Tryd.prog 98 #[.slice (some ⟨b, 0, none⟩) xs.length c, .int .i64 a, .int .i64 e, .func (.func 30) #[] #[]] w fun en w' => en = .returned (.tuple #[]) ∧ Srt w0 w' b r ∧ r.length = xs.length := by
  obtain ⟨ad, had⟩ : ∃ ad, ad = (⟨b, 0, none⟩ : Addr) := ⟨_, rfl⟩
  rw [← had]
  obtain ⟨N, hN⟩ : ∃ N, N = xs.length := ⟨_, rfl⟩
  have HN := Aside0.mk hN
  rw [← hN] at he hlen ⊢
  have HAD := Aside0.mk had
  have HH := Aside0.mk h
  have HR := Aside0.mk hr
  have HAE := Aside0.mk hae
  clear had h hr hN
  have hu1 := Tryd.underlying24
  have hNat : (N : Int) ≤ 1000000 := by omega
  go_enter Tryd.func98, Tryd.ntmps98
  go_wp2
  go_loopg [8] (e - (a + 1)) (fun kq v wr => ∃ (i : Nat) (ys : List S24), v = .int .i64 (i : Int) ∧ Aside0 (kq = e - i ∧ a < i ∧ ys.length = N ∧ i ≤ 1000001) ∧ Aside0 (insI a kq i ys = some r) ∧ Aside0 (Srt w0 wr b ys))
  case atStart => exact ⟨a + 1, xs, by go_num, ⟨rfl, by omega, HN.out.symm, by omega⟩, HR, HH⟩
  case round =>
    obtain ⟨i, ys, rfl, HI, HX, HSr⟩ := hrel
    by_cases hlt : i < e
    · have hi1 : i ≤ 1000000 := by omega
      have hd : decide ((i : Int) < (e : Int)) = true := decide_eq_true (by omega)
      obtain ⟨k1, hk1⟩ : ∃ k1, gk = k1 + 1 := ⟨gk - 1, by have := HI.out.1; omega⟩
      subst hk1
      have hx := HX.out
      unfold insI at hx
      obtain ⟨ys1, hj1, hx⟩ := Option.bind_eq_some_iff.1 hx
      have HX1 := Aside0.mk hx
      have HJ1 := Aside0.mk hj1
      clear hx hj1 HX
      go_wp2
      go_loopg [9] i (fun kq v wr => ∃ (j : Nat) (zs : List S24), v = .int .i64 (j : Int) ∧ Aside0 (kq = j ∧ a ≤ j ∧ j < e ∧ zs.length = N) ∧ Aside0 (insJ a j zs = some ys1) ∧ Aside0 (Srt w0 wr b zs))
      case atStart => exact ⟨i, ys, rfl, ⟨rfl, by have := HI.out.2.1; omega, hlt, HI.out.2.2.1⟩, HJ1, HSr⟩
      case round =>
        obtain ⟨j, zs, rfl, HK, HZ, HS2⟩ := hrel
        by_cases hja : a < j
        · obtain ⟨jp, rfl⟩ : ∃ jp, j = jp + 1 := ⟨j - 1, by omega⟩
          obtain ⟨cc, hcc, hz⟩ := insJ_step HZ.out hja
          have HCC := Aside0.mk hcc
          have hjl : jp + 1 < N := by have := HK.out.2.2.1; omega
          have hd1 : decide ((a : Int) < (jp : Int) + 1) = true := decide_eq_true (by omega)
          have c1 := HS2.out.cell (jp + 1) (by rw [HK.out.2.2.2]; exact hjl)
          have c0 := HS2.out.cell jp (by rw [HK.out.2.2.2]; omega)
          have hx0 : wr.cell? ⟨b, (jp + 1) * 3, none⟩ = some (.int .u8 (vAt zs (jp + 1)).f0) := c1.1
          have hx1 : wr.cell? ⟨b, (jp + 1) * 3 + 1, none⟩ = some (.int .i64 (vAt zs (jp + 1)).f1) := c1.2.1
          have hx2 : wr.cell? ⟨b, (jp + 1) * 3 + 2, none⟩ = some (.string (vAt zs (jp + 1)).f2) := c1.2.2
          have hy0 : wr.cell? ⟨b, jp * 3, none⟩ = some (.int .u8 (vAt zs jp).f0) := c0.1
          have hy1 : wr.cell? ⟨b, jp * 3 + 1, none⟩ = some (.int .i64 (vAt zs jp).f1) := c0.2.1
          have hy2 : wr.cell? ⟨b, jp * 3 + 2, none⟩ = some (.string (vAt zs jp).f2) := c0.2.2
          have hadd : ∀ n, ad.add n = ⟨b, n, none⟩ := fun n => by rw [HAD.out, add_plain]
          have hq1 := eq_true (show 0 ≤ (jp : Int) + 1 by omega)
          have hq2 := eq_true (show (jp : Int) + 1 < (N : Int) by omega)
          have hq3 := eq_true (show 0 ≤ (jp : Int) by omega)
          have hq4 := eq_true (show (jp : Int) < (N : Int) by omega)
          have hw1 : IntKind.i64.wrap ((jp : Int) + 1 - 1) = (jp : Int) := by rw [Int.add_sub_cancel]; exact IntWalk.i64_in _ (by omega)
          have hw2 : wrap64 ((jp : Int) + 1 - 1) = (jp : Int) := by unfold wrap64; omega
          have hw3 : wrap64 (jp : Int) = (jp : Int) := by unfold wrap64; omega
          have hw4 : IntKind.i64.wrap (jp : Int) = (jp : Int) := IntWalk.i64_in _ (by omega)
          have ht1 : ((jp : Int) + 1).toNat = jp + 1 := by omega
          rw [show ((jp + 1 : Nat) : Int) = (jp : Int) + 1 from Int.natCast_succ jp]
          clear c1 c0 hcc
          have hq5 := eq_true (show (a : Int) < (jp : Int) + 1 by omega)
          go_wp2
          go_region_held3 (fun w' => w'.cell? ⟨b, (jp + 1) * 3, none⟩ = some (.int .u8 (vAt zs (jp + 1)).f0) ∧ w'.cell? ⟨b, (jp + 1) * 3 + 1, none⟩ = some (.int .i64 (vAt zs (jp + 1)).f1) ∧ w'.cell? ⟨b, (jp + 1) * 3 + 2, none⟩ = some (.string (vAt zs (jp + 1)).f2) ∧ w'.cell? ⟨b, jp * 3, none⟩ = some (.int .u8 (vAt zs jp).f0) ∧ w'.cell? ⟨b, jp * 3 + 1, none⟩ = some (.int .i64 (vAt zs jp).f1) ∧ w'.cell? ⟨b, jp * 3 + 2, none⟩ = some (.string (vAt zs jp).f2)) (first | go_keep | trivial) (first
            | (go_at_call 30; refine (value_Compare.calls (vAt zs (jp + 1)).f0 (vAt zs (jp + 1)).f1 (vAt zs (jp + 1)).f2 (vAt zs jp).f0 (vAt zs jp).f1 (vAt zs jp).f2 cc _ HCC.out).mono ?_; rintro en w5 ⟨rfl, hb⟩; have HS5 := Aside0.mk (HS2.out.drew.below hb); have hx50 := pw_cell_below (w := wr.drew) hb hx0; have hx51 := pw_cell_below (w := wr.drew) hb hx1; have hx52 := pw_cell_below (w := wr.drew) hb hx2; have hy50 := pw_cell_below (w := wr.drew) hb hy0; have hy51 := pw_cell_below (w := wr.drew) hb hy1; have hy52 := pw_cell_below (w := wr.drew) hb hy2; have hf50 := HS5.out.frozen; clear hb))
          have hfz1 : w5.frozen? ⟨b, (jp + 1) * 3, none⟩ = false := hf50 _
          have hfz2 : w5.frozen? ⟨b, (jp + 1) * 3 + 1, none⟩ = false := hf50 _
          have hfz3 : w5.frozen? ⟨b, (jp + 1) * 3 + 2, none⟩ = false := hf50 _
          have hfz4 : w5.frozen? ⟨b, jp * 3, none⟩ = false := hf50 _
          have hfz5 : w5.frozen? ⟨b, jp * 3 + 1, none⟩ = false := hf50 _
          have hfz6 : w5.frozen? ⟨b, jp * 3 + 2, none⟩ = false := hf50 _
          clear hf50 hx0 hx1 hx2 hy0 hy1 hy2
          rcases hz with ⟨hneg, hz⟩ | ⟨hpos, hz⟩
          · have hd3 : decide (cc < 0) = true := decide_eq_true hneg
            have HZ7 := Aside0.mk hz
            clear hz
            have hne00 := eq_false (show ¬ (jp + 1) * 3 = jp * 3 by omega)
            have hnf00 := eq_false (show ¬ jp * 3 = (jp + 1) * 3 by omega)
            have hne01 := eq_false (show ¬ (jp + 1) * 3 = jp * 3 + 1 by omega)
            have hnf01 := eq_false (show ¬ jp * 3 + 1 = (jp + 1) * 3 by omega)
            have hne02 := eq_false (show ¬ (jp + 1) * 3 = jp * 3 + 2 by omega)
            have hnf02 := eq_false (show ¬ jp * 3 + 2 = (jp + 1) * 3 by omega)
            have hne10 := eq_false (show ¬ (jp + 1) * 3 + 1 = jp * 3 by omega)
            have hnf10 := eq_false (show ¬ jp * 3 = (jp + 1) * 3 + 1 by omega)
            have hne11 := eq_false (show ¬ (jp + 1) * 3 + 1 = jp * 3 + 1 by omega)
            have hnf11 := eq_false (show ¬ jp * 3 + 1 = (jp + 1) * 3 + 1 by omega)
            have hne12 := eq_false (show ¬ (jp + 1) * 3 + 1 = jp * 3 + 2 by omega)
            have hnf12 := eq_false (show ¬ jp * 3 + 2 = (jp + 1) * 3 + 1 by omega)
            have hne20 := eq_false (show ¬ (jp + 1) * 3 + 2 = jp * 3 by omega)
            have hnf20 := eq_false (show ¬ jp * 3 = (jp + 1) * 3 + 2 by omega)
            have hne21 := eq_false (show ¬ (jp + 1) * 3 + 2 = jp * 3 + 1 by omega)
            have hnf21 := eq_false (show ¬ jp * 3 + 1 = (jp + 1) * 3 + 2 by omega)
            have hne22 := eq_false (show ¬ (jp + 1) * 3 + 2 = jp * 3 + 2 by omega)
            have hnf22 := eq_false (show ¬ jp * 3 + 2 = (jp + 1) * 3 + 2 by omega)
            go_wp2
            go_big_region
            have HS6 := Aside0.mk ((((HS5.out.put (jp + 1) (by rw [HK.out.2.2.2]; exact hjl) (vAt zs jp)).put jp (by rw [List.length_set, HK.out.2.2.2]; omega) (vAt zs (jp + 1)))).drew)
            go_wp2
            go_roundg jp
            case measure => have := HK.out.1; omega
            case rel => exact ⟨jp, swapAt zs jp, by go_num, ⟨rfl, by omega, by have := HK.out.2.2.1; omega, by rw [swapAt_length]; exact HK.out.2.2.2⟩, HZ7, HS6⟩
          · have hd3 : decide (cc < 0) = false := decide_eq_false (by omega)
            have hq6 := eq_false (show ¬ cc < 0 by omega)
            subst hz
            have HSZ := Aside0.mk HS5.out
            have hpos' : 0 ≤ cc := by omega
            clear hq6
            go_wp2
            all_goals try (exfalso; omega)
            go_roundg k1
            case measure => have := HI.out.1; omega
            case rel => exact ⟨i + 1, ys1, by go_num, ⟨by have := HI.out.1; omega, by have := HI.out.2.1; omega, HK.out.2.2.2, by omega⟩, HX1, HSZ⟩
        · have hjj := insJ_stop HZ.out (by omega)
          have hd1 : decide ((a : Int) < (j : Int)) = false := decide_eq_false (by omega)
          subst hjj
          have hq5 := eq_false (show ¬ (a : Int) < (j : Int) by omega)
          go_wp2
          go_quiet (fail)
          go_wp2
          go_roundg k1
          case measure => have := HI.out.1; omega
          case rel => exact ⟨i + 1, ys1, by go_num, ⟨by have := HI.out.1; omega, by have := HI.out.2.1; omega, HK.out.2.2.2, by omega⟩, HX1, ⟨HS2.out.turns.drewN nq, HS2.out.old, HS2.out.row⟩⟩
    · have hd : decide ((i : Int) < (e : Int)) = false := decide_eq_false (by omega)
      obtain ⟨rfl⟩ : gk = 0 := by have := HI.out.1; omega
      have hx := Option.some.inj HX.out
      subst hx
      have HL := Aside0.mk HI.out.2.2.1
      go_wp2
      go_end0
      exact ⟨rfl, HSr.out, HL.out⟩
end Go.Proofs.YtjankdoaobklgaaDoor.Q
end
