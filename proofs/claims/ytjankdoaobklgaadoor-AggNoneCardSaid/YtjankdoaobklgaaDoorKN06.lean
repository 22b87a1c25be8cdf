import Derived.RangeFuncNested
import Derived.RangeFuncBound
import Derived.RangeFuncCalls
import Derived.RangeFuncLeaves
import Derived.Shelf.Abstract
import Derived.Shelf.RegionOpen
import Derived.WalkKit
import Derived.OwnWalkIn
import Derived.TacticsInMore
import Derived.LoopNIn
import Derived.LoopIn
import Derived.Test.YtjankdoaobklgaaDoorKN01
section
namespace Go.Proofs.YtjankdoaobklgaaDoor.Q
open Go.RowKit Go.Shelf Go.Proofs.YtjankdoaobklgaaDoorW.PrintWords Go.Proofs.YtjankdoaobklgaaDoorW.PrintLast Go.Proofs.YtjankdoaobklgaaDoorW.PrintMore

attribute [local go_sem] Oper.semAt_some

/-- what yield is handed -/
abbrev encV (x : S24) : Array Value := #[.agg #[.int .u8 x.f0, .int .i64 x.f1, .string x.f2]]

set_option maxRecDepth 100000 in
set_option maxHeartbeats 4000000 in
theorem seq_values (F : Fence) (n : Nat) (h68 : F.fn 68) (hro : F.round = none) (hn : 1 ≤ n) (l Bs n₀ : Nat) (A : Option Addr) (c : Nat) (xs : List S24) (W0 : World) (hC : Kd.C k24 W0 A xs.length xs) (hblk : ∀ ad, A = some ad → ad.block < n₀)
    (W : World) (J Jx : List S24 → World → Prop) (hJ : AbidesFrom W.heap.size J)
    (hY : ∀ pre x W1, J pre W1 → pre.length < xs.length → YieldAt F (n - 1) Tryd.prog l (encV x) W1 fun e W' =>
      (e = .returned (.bool true) ∧ J (pre ++ [x]) W' ∧ Below n₀ W1 W') ∨ (e = .returned (.bool false) ∧ Jx (pre ++ [x]) W'))
    (hn₀ : n₀ ≤ W.heap.size) (hW : Below n₀ W0 W) (hBs : W.cell? ⟨Bs, 0, none⟩ = some (.slice A xs.length c)) (h0 : J [] W) :
    CallsIn F n Tryd.prog 68 #[.func (.yield l) #[] #[], .pointer (some ⟨Bs, 0, none⟩)] W fun e W' => (∃ v, e = .returned v) ∧
      ((∃ ys, ys = xs ∧ J ys W') ∨ (∃ pre, pre <+: xs ∧ Jx pre W')) := by
  have hm : xs.length ≤ 9223372036854775807 := hC.2.1
  have HC := Aside0.mk hC
  have HW := Aside0.mk hW
  clear hC hW
  have hu1 := Tryd.underlying24
  refine callsIn_of_wp Tryd.func68 rfl h68 ?_ hro
  simp only [Tryd.ntmps68, List.size_toArray, List.length_cons, List.length_nil, Nat.reduceAdd, Nat.reduceSub, Array.replicate_succ, Array.replicate_zero, List.push_toArray, List.append_toArray, List.nil_append, List.cons_append]
  gi_wp2
  gi_loopw [7] (fun i wr => ∃ k : Nat, k ≤ xs.length ∧ i = .int .i64 k ∧ J (xs.take k) wr ∧ Aside0 (Below n₀ W0 wr) ∧ W.heap.size ≤ wr.heap.size)
    (fun i _ => xs.length - (intOf i).toNat)
  case atStart => exact ⟨0, Nat.zero_le _, rfl, by simpa using h0, HW, Nat.le_refl _⟩
  case round =>
    obtain ⟨k, hk, rfl, hJs, HX, hsz⟩ := hrel
    by_cases hlt : k < xs.length
    · have p1 : 0 ≤ (k : Int) := by omega
      have q1 : (k : Int) < (xs.length : Int) := by omega
      obtain ⟨ad, e1, hx0, hx1, hx2⟩ := at_T24 HC.out (k : Int) p1 q1
      have hbl := hblk ad e1
      cases e1
      have hbl2 : (ad.add ((k : Int).toNat * 3)).block < n₀ := by
        have e : (ad.add ((k : Int).toNat * 3)).block = ad.block := by unfold Addr.add; split <;> rfl
        rw [e]; exact hbl
      replace hx0 := (HX.out.cell hbl2).trans hx0
      replace hx1 := (HX.out.cell (p := ⟨(ad.add ((k : Int).toNat * 3)).block, _, none⟩) hbl2).trans hx1
      replace hx2 := (HX.out.cell (p := ⟨(ad.add ((k : Int).toNat * 3)).block, _, none⟩) hbl2).trans hx2
      have HV := Aside0.mk (show rd_T24 xs (k : Int) = xs[k] by simp [rd_T24, List.getD_eq_getElem?_getD, List.getElem?_eq_getElem hlt])
      rw [HV.out, Int.toNat_natCast] at hx0 hx1 hx2
      have hq1 := eq_true p1
      have hq2 := eq_true q1
      have hJa : J (xs.take k) (wr.alloc (.cells (#[.int .u8 xs[k].f0, .int .i64 xs[k].f1, .string xs[k].f2]) 24)) := hJ _ _ _ none hJs (World.grownBy_alloc wr _ none) (fun r e => by cases e)
      obtain ⟨fn, tmps, assign, body, hy, hR⟩ := hY _ xs[k] _ hJa (by rw [List.length_take]; omega)
      have HBa := Aside0.mk ((HX.out.alloc (Nat.le_trans hn₀ hsz) (.cells (#[.int .u8 xs[k].f0, .int .i64 xs[k].f1, .string xs[k].f2]) 24)))
      gi_wp2
      refine hR.mono ?_
      rintro e W3 (⟨rfl, hJ3, hk3⟩ | ⟨rfl, hJx3⟩)
      · have HB3 := Aside0.mk (HBa.out.trans hk3)
        have HS3 := Aside0.mk (show W.heap.size ≤ W3.heap.size from Nat.le_trans hsz (Nat.le_trans (by simp) hk3.size))
        have HJ3 := Aside0.mk hJ3
        clear hy hR hk3 hJ3 hJa
        gi_wp2
        go_roundw
        case rel => exact ⟨k + 1, by omega, by go_num, by rw [List.take_succ_eq_append_getElem hlt]; exact HJ3.out, HB3, HS3.out⟩
        case measure => simp [intOf]; omega
      · have HJ3 := Aside0.mk hJx3
        clear hy hR hJx3 hJa
        gi_wp2
        refine bodyPost_ret (results_none rfl _ _ _) rfl ?_
        exact ⟨⟨_, rfl⟩, .inr ⟨_, by rw [← List.take_succ_eq_append_getElem hlt]; exact List.take_prefix _ _, HJ3.out⟩⟩
    · obtain rfl : k = xs.length := by omega
      have hd : decide ((xs.length : Int) < (xs.length : Int)) = false := decide_eq_false (by omega)
      gi_wp2
      go_end0
      exact ⟨⟨_, rfl⟩, .inl ⟨_, List.take_length, hJs⟩⟩
end Go.Proofs.YtjankdoaobklgaaDoor.Q
end
