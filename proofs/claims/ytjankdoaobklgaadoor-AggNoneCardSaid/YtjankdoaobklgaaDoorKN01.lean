import Derived.Test.YtjankdoaobklgaaDoorProg
import Derived.Test.YtjankdoaobklgaaDoorKN00
import Derived.Below
import Derived.Deep.Draws
import Derived.Deep.AppendLies
import Derived.Maps.AppendAt
import Derived.OwnWalk
import Derived.Laws.BytesArg
import Derived.Laws.MakeOwn
import Derived.Laws.OwnMore
import Derived.Deep.OwnRows
import Derived.Tactics
import Derived.Lib.ConvBytes
import Derived.Laws.Slices
import Derived.WalkKit
import Derived.KernelRfl
import Derived.RowKit3
import Derived.Deep.LoopGhost
import Derived.Deep.QuietTactic
import Derived.BigQuiet
import Derived.WideLaws
import Derived.Deep.DeepCutAuto
import Derived.Deep.CutBlock
import Derived.Deep.RegionHeld3
import Derived.Laws.Rows
import Derived.Lib.AppendStr
import Derived.ArgAppend
import Derived.Laws.IdiomCopy
import Derived.OrdersHeld
import Derived.Laws.BitsLemmas
import Derived.RowKit
import Derived.Test.YtjankdoaobklgaaDoorWWords
import Derived.Test.YtjankdoaobklgaaDoorWLast
import Derived.Test.YtjankdoaobklgaaDoorWTab
import Derived.Test.YtjankdoaobklgaaDoorWFour
import Derived.Test.YtjankdoaobklgaaDoorWQPut
import Derived.Test.YtjankdoaobklgaaDoorWApart
import Derived.Test.YtjankdoaobklgaaDoorWArr
import Derived.Test.YtjankdoaobklgaaDoorWZeros
import Derived.Test.YtjankdoaobklgaaDoorWFoot
import Derived.Test.YtjankdoaobklgaaDoorWKept
import Derived.Test.YtjankdoaobklgaaDoorWShare
import Derived.Test.YtjankdoaobklgaaDoorWN
import Derived.Test.YtjankdoaobklgaaDoorWFootNe
import Derived.Test.YtjankdoaobklgaaDoorWAt
import Derived.Test.YtjankdoaobklgaaDoorWEqStruct
import Derived.Test.YtjankdoaobklgaaDoorWRepsOne
import Derived.Test.YtjankdoaobklgaaDoorWInv
import Derived.Test.YtjankdoaobklgaaDoorWInvWords
import Derived.Test.YtjankdoaobklgaaDoorWGuard
import Derived.Test.YtjankdoaobklgaaDoorWNEv
import Derived.Test.YtjankdoaobklgaaDoorWMore
import Derived.Laws.MathBits
import Derived.Outline
import Derived.Maps.OwnOps
import Derived.Maps.Views
import Derived.Deep.Heap
section
namespace Go.Proofs.YtjankdoaobklgaaDoor.Q
open Go.RowKit Go.Proofs.YtjankdoaobklgaaDoorW.PrintWords Go.Proofs.YtjankdoaobklgaaDoorW.PrintLast Go.Proofs.YtjankdoaobklgaaDoorW.PrintMore
attribute [local go_sem] max2_int min2_int max_two min_two max_three min_three max_four min_four   -- for this text's walks alone
set_option linter.unusedVariables false
set_option linter.unusedSimpArgs false

def errW : Option Int → Value
  | none => .nilIface
  | some c => .iface 0 (.int .i64 c)
theorem errW_none : errW none = .nilIface := rfl
theorem errW_some (c : Int) : errW (some c) = .iface 0 (.int .i64 c) := rfl

theorem info5 : (Tryd.prog.info? 5).map (fun i => (i.zero, i.size, i.bytes)) = some (some (.int .u8 0), 1, 1) := by kernel_rfl
theorem info9 : (Tryd.prog.info? 9).map (fun i => (i.zero, i.size, i.bytes)) = some (some (.string ⟨#[]⟩), 1, 16) := by kernel_rfl
theorem info24 : (Tryd.prog.info? 24).map (fun i => (i.zero, i.size, i.bytes)) = some (some (.agg #[(.int .u8 0), (.int .i64 0), (.string ⟨#[]⟩)]), 3, 32) := by kernel_rfl
-- the values' own types
/-! #### struct type 24 -/
structure S24 where
  f0 : Int
  f1 : Int
  f2 : ByteArray
def z24 : S24 := ⟨(0 : Int), (0 : Int), (⟨#[]⟩ : ByteArray)⟩
def k24 : Kd S24 := Kd.iso (Kd.pair (Kd.int .u8) (Kd.pair (Kd.int .i64) Kd.string)) (fun x : S24 => (x.f0, x.f1, x.f2))
theorem k24_open {w : World} {x : S24} {cs : List Value} (h : k24.K w x cs) : cs = [.int .u8 x.f0, .int .i64 x.f1, .string x.f2] := by
  obtain ⟨_, _, rfl, rfl, ⟨_, _, rfl, rfl, rfl⟩⟩ := h
  exact rfl
theorem k24_openM {w : World} {base : Nat} {ok : Nat → Prop} {x : S24} {cs : List Value} (h : k24.M w base ok x cs) : cs = [.int .u8 x.f0, .int .i64 x.f1, .string x.f2] := by
  obtain ⟨_, _, rfl, rfl, ⟨_, _, rfl, rfl, rfl⟩⟩ := h
  exact rfl
theorem k24_mk (w : World) (x : S24)  : k24.K w x [.int .u8 x.f0, .int .i64 x.f1, .string x.f2] := ⟨[.int .u8 x.f0], [.int .i64 x.f1, .string x.f2], rfl, rfl, ⟨[.int .i64 x.f1], [.string x.f2], rfl, rfl, rfl⟩⟩
theorem k24_mkM (w : World) (base : Nat) (ok : Nat → Prop) (x : S24)  : k24.M w base ok x [.int .u8 x.f0, .int .i64 x.f1, .string x.f2] := ⟨[.int .u8 x.f0], [.int .i64 x.f1, .string x.f2], rfl, rfl, ⟨[.int .i64 x.f1], [.string x.f2], rfl, rfl, rfl⟩⟩
def rd_T24 (xs : List S24) (i : Int) : S24 := xs.getD i.toNat z24
theorem at_T24 {w : World} {A : Option Addr} {n : Nat} {xs : List S24} (h : Kd.C k24 w A n xs) (i : Int) (h0 : 0 ≤ i) (h1 : i < n) : ∃ ad , A = some ad ∧ w.cell? (ad.add (i.toNat * 3)) = some (.int .u8 (rd_T24 xs i).f0) ∧ w.cell? ⟨(ad.add (i.toNat * 3)).block, (ad.add (i.toNat * 3)).off + 1, none⟩ = some (.int .i64 (rd_T24 xs i).f1) ∧ w.cell? ⟨(ad.add (i.toNat * 3)).block, (ad.add (i.toNat * 3)).off + 2, none⟩ = some (.string (rd_T24 xs i).f2) := by
  obtain ⟨ad, c, e, _, hK, hc0⟩ := Kd.C_get h z24 i h0 h1
  have hc : ∀ j u, c[j]? = some u → w.cell? (ad.add (i.toNat * 3 + j)) = some u := hc0
  obtain rfl := k24_open hK
  exact ⟨ad, e, hc 0 _ rfl, by rw [← add_field _ _ 1 (by omega)]; exact hc 1 _ rfl, by rw [← add_field _ _ 2 (by omega)]; exact hc 2 _ rfl⟩

def rd_L5 (xs : List (List S24)) (i : Int) : (List S24) := xs.getD i.toNat ([] : List S24)
theorem at_L5 {w : World} {A : Option Addr} {n : Nat} {xs : List (List S24)} (h : Kd.C (Kd.slice 24 k24) w A n xs) (i : Int) (h0 : 0 ≤ i) (h1 : i < n) : ∃ ad A0 c0, A = some ad ∧ w.cell? (ad.add i.toNat) = some (.slice A0 (rd_L5 xs i).length c0) ∧ (rd_L5 xs i).length ≤ c0 ∧ k24.C w A0 (rd_L5 xs i).length (rd_L5 xs i) := by
  obtain ⟨ad, c, e, _, hK, hc0⟩ := Kd.C_get h ([] : List S24) i h0 h1
  have hc : ∀ j u, c[j]? = some u → w.cell? (ad.add (i.toNat * 1 + j)) = some u := hc0
  obtain ⟨A0, c0, rfl, l0, g0⟩ := hK
  exact ⟨ad, A0, c0, e, by have hq := hc 0 _ rfl; rwa [Nat.mul_one, Nat.add_zero] at hq, l0, g0⟩

def rd_L6 (xs : List (List Int)) (i : Int) : (List Int) := xs.getD i.toNat ([] : List Int)
theorem at_L6 {w : World} {A : Option Addr} {n : Nat} {xs : List (List Int)} (h : Kd.C (Kd.slice 5 (Kd.int .u8)) w A n xs) (i : Int) (h0 : 0 ≤ i) (h1 : i < n) : ∃ ad A0 c0, A = some ad ∧ w.cell? (ad.add i.toNat) = some (.slice A0 (rd_L6 xs i).length c0) ∧ (rd_L6 xs i).length ≤ c0 ∧ (Kd.int .u8).C w A0 (rd_L6 xs i).length (rd_L6 xs i) := by
  obtain ⟨ad, c, e, _, hK, hc0⟩ := Kd.C_get h ([] : List Int) i h0 h1
  have hc : ∀ j u, c[j]? = some u → w.cell? (ad.add (i.toNat * 1 + j)) = some u := hc0
  obtain ⟨A0, c0, rfl, l0, g0⟩ := hK
  exact ⟨ad, A0, c0, e, by have hq := hc 0 _ rfl; rwa [Nat.mul_one, Nat.add_zero] at hq, l0, g0⟩

end Go.Proofs.YtjankdoaobklgaaDoor.Q
end
section
namespace Go.Proofs.YtjankdoaobklgaaDoor.Q
open Go.RowKit Go.Proofs.YtjankdoaobklgaaDoorW.PrintWords Go.Proofs.YtjankdoaobklgaaDoorW.PrintLast

/-- math/bits.Add64: no body; the model's own entry. -/
theorem add64 (x y c : Int) (hx : 0 ≤ x) (hy : 0 ≤ y) (hc0 : 0 ≤ c) (hc : c ≤ 1) (w : World) :
    (callFunc 55 #[.int .u64 x, .int .u64 y, .int .u64 c]).run Tryd.prog w =
      .ok (.value (.tuple #[.int .u64 ((x + y + c) % 18446744073709551616), .int .u64 ((x + y + c) / 18446744073709551616)])) w := by
  rw [run_callFunc_extern Tryd.func55 (by kernel_rfl) (by kernel_rfl) (by kernel_rfl) (e := add64Entry) (by kernel_rfl), run_add64 x y c hx hy hc0 hc]
  rfl

theorem size_setCell_ (w : World) (a : Addr) (v : Value) : (w.setCell a v).heap.size = w.heap.size := by simp [World.setCell]
/-- A literal's slice, made behind a store. -/
theorem lit_setCell (w : World) (a : Addr) (v : Value) (n : Nat) : Value.slice (some ⟨w.heap.size, 0, none⟩) n n = .slice (some ⟨(w.setCell a v).heap.size, 0, none⟩) n n := by rw [size_setCell_]

/-- What a call that is handed some blocks (S) turns: them alone, and what it makes itself. -/
structure Turns (w W : World) (S : Nat → Prop) : Prop where
  os : W.os = w.os
  tape : W.tape = w.tape
  output : W.output = w.output
  kept : Kept w W S
section
variable {w W W2 : World} {S S2 S' : Nat → Prop}
theorem Turns.refl (w : World) (S : Nat → Prop) : Turns w w S := ⟨rfl, rfl, rfl, Kept.refl w S⟩
theorem Turns.mono (h : Turns w W S) (hs : ∀ k, S k → S' k) : Turns w W S' := ⟨h.os, h.tape, h.output, h.kept.mono hs⟩
theorem Turns.then_ (h : Turns w W S) (k : Turns W W2 S2) (hs : ∀ k, S2 k → S k ∨ w.heap.size ≤ k) : Turns w W2 S := ⟨k.os.trans h.os, k.tape.trans h.tape, k.output.trans h.output, h.kept.then_ k.kept hs⟩
theorem Turns.of_below (h : Below w.heap.size w W) (S : Nat → Prop) : Turns w W S := ⟨h.os, h.tape, h.output, Kept.of_below h S⟩
theorem Turns.below (h : Turns w W S) (hb : Below W.heap.size W W2) : Turns w W2 S := h.then_ (Turns.of_below hb (fun _ => False)) (fun _ hk => hk.elim)
theorem Turns.of_grown {row : Option Nat} (h : Turns w W S) (hg : W.grownBy W2 row) (hr : ∀ k, row = some k → S k ∨ w.heap.size ≤ k) : Turns w W2 S := ⟨hg.os.trans h.os, hg.tape.trans h.tape, hg.output.trans h.output, Kept.of_grown hg h.kept hr⟩
theorem Turns.alloc (h : Turns w W S) (o : Obj) : Turns w (W.alloc o) S := ⟨h.os, h.tape, h.output, h.kept.alloc o⟩
theorem Turns.drew (h : Turns w W S) : Turns w W.drew S := ⟨h.os, h.tape, h.output, h.kept.drew⟩
theorem Turns.drewN (h : Turns w W S) (n : Nat) : Turns w (W.drewN n) S := ⟨h.os, h.tape, h.output, h.kept.drewN n⟩
theorem Turns.setCell (h : Turns w W S) {p : Addr} (hp : S p.block ∨ w.heap.size ≤ p.block) (u : Value) : Turns w (W.setCell p u) S := ⟨h.os, h.tape, h.output, h.kept.setCell hp u⟩
theorem Turns.toBelow {B : Nat} (h : Turns w W S) (hB : B ≤ w.heap.size) (hs : ∀ k, S k → B ≤ k) : Below B w W :=
  ⟨h.os, h.tape, h.output, h.kept.1, fun i hi => h.kept.2 i (by omega) (fun hk => by have := hs i hk; omega)⟩
theorem Turns.size (h : Turns w W S) : w.heap.size ≤ W.heap.size := h.kept.1
end

/-- A world cut at a block: the elder world that a printed contract asks for. -/
def cutW (w : World) (B : Nat) : World := { w with heap := w.heap.extract 0 B }
theorem cutW_size {w : World} {B : Nat} (h : B ≤ w.heap.size) : (cutW w B).heap.size = B := by simp [cutW]; omega
theorem cutW_below {w : World} {B : Nat} (h : B ≤ w.heap.size) : Below (cutW w B).heap.size (cutW w B) w :=
  ⟨rfl, rfl, rfl, by rw [cutW_size h]; exact h, fun k hk => by rw [cutW_size h] at hk; simp [cutW, Array.getElem?_extract]; omega⟩
theorem turns_of_cut {w W : World} {B : Nat} {S : Nat → Prop} (h : Below (cutW w B).heap.size (cutW w B) W) (k : Kept w W S) : Turns w W S := ⟨h.os, h.tape, h.output, k⟩

/-- What an Acc holds, but for its row's and its map's places. -/
structure AccS where
  name : ByteArray
  dist : Bool
  n : Int
  hi : Int
  lo : Int
  best : S24
  l : List S24
  seen : List (List UInt8)

def accCells (s : AccS) (lv : Value) (m : Nat) : Array Value :=
  #[.string s.name, .bool s.dist, .int .i64 s.n, .int .u64 s.hi, .int .u64 s.lo, .int .u8 s.best.f0, .int .i64 s.best.f1, .string s.best.f2, lv, .map (some m)]

end Go.Proofs.YtjankdoaobklgaaDoor.Q
end
section
namespace Go.Proofs.YtjankdoaobklgaaDoor.Q
open Go.RowKit Go.Proofs.YtjankdoaobklgaaDoorW.PrintWords Go.Proofs.YtjankdoaobklgaaDoorW.PrintLast

theorem info_u8 : (Tryd.prog.info? 5).map (fun i => (i.zero, i.size, i.bytes)) = some (some (.int .u8 0), 1, 1) := by kernel_rfl

/-- Captured: a slice of bytes in a block of its own. -/
def Cap (w : World) (B : Nat) (P : Nat → Prop) (b : Nat) (l : List Int) : Prop :=
  ∃ u, w.heap[b]? = some (.cells #[u] 39 (0, 0)) ∧ Kd.R (Kd.int .u8) 5 w B P u l

def putB (l : List Int) (c : Int) : List Int := if c = 0 then l ++ [c] ++ [255] else l ++ [c]

theorem u8_ne (q : Nat) (h : q ∈ 5 :: (Kd.int .u8).E) : q ≠ 39 := by
  cases h with
  | head => decide
  | tail _ h => cases h

set_option maxHeartbeats 8000000 in
set_option maxRecDepth 100000 in
theorem part_put (b B : Nat) (P : Nat → Prop) (l : List Int) (c : Int) (w : World) (hc : Cap w B P b l) (hB : B ≤ w.heap.size) (hP : ∀ k, w.heap.size ≤ k → P k) (hl : l.length + 2 ≤ 140737488355328) :
    Calls Tryd.prog 89 #[.int .u8 c, .pointer (some ⟨b, 0, none⟩)] w fun e w' => e = .returned (.tuple #[]) ∧ Cap w' B P b (putB l c) ∧ Turns w w' (fun k => k = b ∨ P k) := by
  obtain ⟨u, hb, hR⟩ := hc
  have hcz0 : w.cell? ⟨b, 0, none⟩ = some u := (blk_cell hb 0).trans rfl
  have HR := Aside0.mk hR
  have HB0 := Aside0.mk hb
  have HP := Aside0.mk hP
  have HL := Aside0.mk hl
  have HBs := Aside0.mk hB
  have HT := Aside0.mk (Turns.refl w (fun k => k = b ∨ P k))
  clear hR hb hP hl hB
  obtain ⟨l1, hl1⟩ : ∃ l1, l1 = l ++ [c] := ⟨_, rfl⟩
  have N1 := Aside0.mk hl1
  clear hl1
  by_cases h0 : c = 0
  · have NE := Aside0.mk (show l1 ++ [255] = putB l c by unfold putB; rw [if_pos h0, N1.out])
    subst h0
    go_enter Tryd.func89, Tryd.ntmps89
    go_wp2_with (first | ((with_reducible refine gate_builtin (b := .append) (xs := #[.tmp 3, .tmp 5]) rfl ?_); at_builtin; refine Kd.R_append (Kd.int .u8) (w0 := w) B rfl (.tmp 3) (.tmp 5) 39 5 (.int .u8 0) 1 rfl Tryd.underlying39 info_u8 rfl (by decide) (by omega) u l 0 [.int .u8 0] P (fun _ => False) rfl rfl ?aP (fun _ hk => hk.elim) ?aF ?aO ?aB ?aS ?aL ?_; (case aP => exact rfl); (case aB => exact Below.refl _ _); (case aF => exact HP.out); (case aO => exact HR.out); (case aS => exact HBs.out); (case aL => have := HL.out; omega); intro v1 w1 ho hb hg hat; rw [← N1.out] at ho; have HB1 := Aside0.mk (blk_grown HB0.out hg (Kd.R_ne HR.out HB0.out (by decide))); have HT1 := Aside0.mk (HT.out.of_grown hg (fun k e_ => .inl (.inr (HR.out.1 k e_)))); have hcz1 : w1.cell? ⟨b, 0, none⟩ = some u := (blk_cell HB1.out 0).trans rfl; have hfz1 := blk_frozen HB1.out 0; obtain ⟨A1, c1, e1⟩ := Kd.R_slice ho; subst e1; have HO1 := Aside0.mk ho; clear ho hb hg hat) | ((with_reducible refine gate_builtin (b := .append) (xs := #[.tmp 9, .tmp 10]) rfl ?_); at_builtin; refine Kd.R_append (Kd.int .u8) (w0 := w1.setCell ⟨b, 0, none⟩ (.slice A1 l1.length c1)) B rfl (.tmp 9) (.tmp 10) 39 5 (.int .u8 0) 1 rfl Tryd.underlying39 info_u8 rfl (by decide) (by omega) (.slice A1 l1.length c1) l1 255 [.int .u8 255] P (fun _ => False) rfl (lit_setCell _ _ _ _) ?bP (fun _ hk => hk.elim) ?bF ?bO ?bB ?bS ?bL ?_; (case bP => exact rfl); (case bB => exact Below.refl _ _); (case bF => exact fun k hk => HP.out k (by have := HT1.out.size; simp [World.setCell] at hk; omega)); (case bO => exact Kd.R_set HO1.out HB1.out u8_ne 0 _); (case bS => have := HT1.out.size; have := HBs.out; simp [World.setCell]; omega); (case bL => have := HL.out; rw [N1.out]; simp; omega); intro v2 w2 ho hb hg hat; rw [NE.out] at ho; have HBA := Aside0.mk (blk_put HB1.out 0 (.slice A1 l1.length c1) rfl); have HB2 := Aside0.mk (blk_grown HBA.out hg (Kd.R_ne (Kd.R_set HO1.out HB1.out u8_ne 0 _) HBA.out (by decide))); have HT2 := Aside0.mk ((HT1.out.setCell (p := ⟨b, 0, none⟩) (.inl (.inl rfl)) (.slice A1 l1.length c1)).of_grown hg (fun k e_ => .inl (.inr (HO1.out.1 k e_)))); have hcz2 : w2.cell? ⟨b, 0, none⟩ = some (.slice A1 l1.length c1) := (blk_cell HB2.out 0).trans rfl; have hfz2 := blk_frozen HB2.out 0; obtain ⟨A2, c2, e2⟩ := Kd.R_slice ho; subst e2; have HO2 := Aside0.mk ho; clear ho hb hg hat))
    go_end0
    exact ⟨rfl, ⟨_, blk_put HB2.out 0 _ rfl, Kd.R_set HO2.out HB2.out u8_ne 0 _⟩, HT2.out.setCell (p := ⟨b, 0, none⟩) (.inl (.inl rfl)) _⟩
  · have NE := Aside0.mk (show l1 = putB l c by unfold putB; rw [if_neg h0, N1.out])
    have hd : (c == 0) = false := by simpa using h0
    clear h0
    go_enter Tryd.func89, Tryd.ntmps89
    go_wp2_with (first | ((with_reducible refine gate_builtin (b := .append) (xs := #[.tmp 3, .tmp 5]) rfl ?_); at_builtin; refine Kd.R_append (Kd.int .u8) (w0 := w) B rfl (.tmp 3) (.tmp 5) 39 5 (.int .u8 0) 1 rfl Tryd.underlying39 info_u8 rfl (by decide) (by omega) u l c [.int .u8 c] P (fun _ => False) rfl rfl ?aP (fun _ hk => hk.elim) ?aF ?aO ?aB ?aS ?aL ?_; (case aP => exact rfl); (case aB => exact Below.refl _ _); (case aF => exact HP.out); (case aO => exact HR.out); (case aS => exact HBs.out); (case aL => have := HL.out; omega); intro v1 w1 ho hb hg hat; rw [← N1.out] at ho; have HB1 := Aside0.mk (blk_grown HB0.out hg (Kd.R_ne HR.out HB0.out (by decide))); have HT1 := Aside0.mk (HT.out.of_grown hg (fun k e_ => .inl (.inr (HR.out.1 k e_)))); have hcz1 : w1.cell? ⟨b, 0, none⟩ = some u := (blk_cell HB1.out 0).trans rfl; have hfz1 := blk_frozen HB1.out 0; obtain ⟨A1, c1, e1⟩ := Kd.R_slice ho; subst e1; have HO1 := Aside0.mk ho; clear ho hb hg hat))
    go_end0
    exact ⟨rfl, ⟨_, blk_put HB1.out 0 _ rfl, NE.out ▸ Kd.R_set HO1.out HB1.out u8_ne 0 _⟩, HT1.out.setCell (p := ⟨b, 0, none⟩) (.inl (.inl rfl)) _⟩
end Go.Proofs.YtjankdoaobklgaaDoor.Q
end
section
namespace Go.Proofs.YtjankdoaobklgaaDoor.Q
open Go.RowKit Go.Proofs.YtjankdoaobklgaaDoorW.PrintWords Go.Proofs.YtjankdoaobklgaaDoorW.PrintLast Go.Proofs.YtjankdoaobklgaaDoorW.PrintMore
attribute [local go_sem] max2_int min2_int max_two min_two max_three min_three max_four min_four   -- for this text's walks alone
set_option linter.unusedVariables false
set_option linter.unusedSimpArgs false

/-! ### record_high: function 88 -/
def record_high.l0 : Nat → List Int → Int → Int → Option (List Int)
  | 0, _, _, _ => none
  | k + 1, x0, x1, x7 => if x7 ≥ 0 then (if 0 ≤ (wrap64 (8 * x7)) then (if x0.length < 140737488355328 then (record_high.l0 k (x0 ++ [(shr .u64 x1 (wrap64 (8 * x7))) % 256]) x1 (wrap64 (x7 - 1))) else (none)) else (none)) else (some x0)
def record_high.f (k : Nat) (l0 : List Int) (a1 : Int) (a2 : Int) : Option (List Int) := record_high.l0 k l0 a1 (wrap64 (a2 - 1))
theorem record_high.mono_l : ∀ k, (∀ y0 y1 y2, LeO (record_high.l0 k y0 y1 y2) (record_high.l0 (k + 1) y0 y1 y2))
  | 0 => fun _ _ _ r h => by simp [record_high.l0] at h
  | k + 1 => by
    have ih0 := record_high.mono_l k
    · intro y0 y1 y2
      unfold record_high.l0
      repeat' first
      | (with_reducible exact ih0 _ _ _)
      | (with_reducible exact LeO.refl _)
      | (with_reducible exact LeO.none _)
      | (with_reducible refine LeO.ite ?_ ?_)
      | (with_reducible refine LeO.bind ?_ (fun _ => ?_))
      | exact ih0 _ _ _
      | exact LeO.none _
      | refine LeO.ite ?_ ?_
      | refine LeO.bind ?_ (fun _ => ?_)
theorem record_high.mono : ∀ a0 a1 a2 k, LeO (record_high.f k a0 a1 a2) (record_high.f (k + 1) a0 a1 a2) := by
  intro a0 a1 a2 k
  have ih0 := record_high.mono_l k
  unfold record_high.f
  repeat' first
      | (with_reducible exact ih0 _ _ _)
      | (with_reducible exact LeO.refl _)
      | (with_reducible exact LeO.none _)
      | (with_reducible refine LeO.ite ?_ ?_)
      | (with_reducible refine LeO.bind ?_ (fun _ => ?_))
      | exact ih0 _ _ _
      | exact LeO.none _
      | refine LeO.ite ?_ ?_
      | refine LeO.bind ?_ (fun _ => ?_)
set_option maxHeartbeats 8000000 in
set_option maxRecDepth 100000 in
theorem record_high.calls (k : Nat) (P0_ : Nat → Prop) (u9000_ : Value) (l0 : List Int) (a1 : Int) (a2 : Int) (r : List Int) (w0 w : World) (hB : Below w0.heap.size w0 w) (ho0 : Kd.R (Kd.int .u8) 5 w w0.heap.size P0_ u9000_ l0) (h : record_high.f k l0 a1 a2 = some r) :
    Calls Tryd.prog 88 #[u9000_, .int .u64 a1, .int .i64 a2] w fun e w' => ∃ v0_ : Value, e = .returned (v0_) ∧ Kd.R (Kd.int .u8) 5 w' w0.heap.size (fun k_ => (P0_ k_ ∨ w.heap.size ≤ k_)) v0_ r ∧ Below w0.heap.size w0 w' ∧ Kept w w' (fun k_ => P0_ k_) := by
  have HO0 := Aside0.mk (show Kd.R (Kd.int .u8) 5 w w0.heap.size (fun k_ => (P0_ k_ ∨ w.heap.size ≤ k_)) u9000_ l0 from Kd.R_mono ho0 (fun k_ hk => (.inl hk)))
  have HK := Aside0.mk (Kept.refl w (fun k_ => P0_ k_))
  have HW0 := Aside0.mk hB.size
  have HB := Aside0.mk hB
  clear hB
  have H : (record_high.l0 k l0 a1 (wrap64 (a2 - 1))) = some r := h
  clear h
  have H' := Aside0.mk H
  clear H
  go_enter Tryd.func88, Tryd.ntmps88
  go_wp2
  go_loopg [0, 7] k (fun kq v0 v7 w' => ∃ (x0_1 : List Int) (x7_1 : Int), v7 = .int .i64 x7_1 ∧ Aside0 (record_high.l0 kq x0_1 a1 x7_1 = some r) ∧ Aside0 (kq ≤ k) ∧ Aside0 (Kd.R (Kd.int .u8) 5 w' w0.heap.size (fun k_ => (P0_ k_ ∨ w.heap.size ≤ k_)) v0 x0_1) ∧ Aside0 (Kept w w' (fun k_ => P0_ k_)) ∧ Aside0 (Below w0.heap.size w0 w'))
  case atStart => exact ⟨(l0), (wrap64 (a2 - 1)), (by first | rfl | (simp; done) | (simp [*]; done)), H', ⟨Nat.le_refl _⟩, ⟨by (with_reducible repeat (first | apply Kd.R_alloc | apply Kd.R_drewN | apply Kd.R_drew)); exact HO0.out⟩, ⟨by repeat (first | (with_reducible first | exact HK.out | apply Kept.alloc | apply Kept.drewN | apply Kept.drew) | exact HK.out)⟩, ⟨by repeat (first | (with_reducible first | exact HB.out | apply below_alloc | apply pw_below_drewN | apply below_drew1) | exact HB.out)⟩⟩
  case round =>
    clear H'
    try clear p2
    obtain ⟨x0_1, x7_1, rfl, HA, HK1, HO_0, HK, HB⟩ := hrel
    cases gk with
    | zero => exact absurd HA.out (by simp [record_high.l0])
    | succ k1 =>
      have H := HA.out
      clear HA
      simp only [record_high.l0] at H
      by_cases c4 : x7_1 ≥ 0
      · rw [if_pos c4] at H
        have c4b0 : decide (0 ≤ x7_1) = true := decide_eq_true c4
        clear c4
        obtain ⟨ji5, hji5⟩ : ∃ j_ : Int, (wrap64 (8 * x7_1)) = j_ := ⟨_, rfl⟩
        replace H : (if 0 ≤ (ji5) then (if x0_1.length < 140737488355328 then (record_high.l0 k1 (x0_1 ++ [(shr .u64 a1 (ji5)) % 256]) a1 (wrap64 (x7_1 - 1))) else (none)) else (none)) = some r := by first | (rw [hji5] at H; exact H) | (simp only [hji5] at H ⊢; exact H)
        have hji5w : (IntKind.i64.wrap (8 * x7_1)) = ji5 := (i64_w _).trans hji5
        by_cases c6 : 0 ≤ (ji5)
        · rw [if_pos c6] at H
          have c6b0 := eq_true c6
          have c6b1 : decide (0 ≤ (ji5)) = true := decide_eq_true c6
          clear c6
          obtain ⟨ji7, hji7⟩ : ∃ j_ : Int, (shr .u64 a1 (ji5)) = j_ := ⟨_, rfl⟩
          replace H : (if x0_1.length < 140737488355328 then (record_high.l0 k1 (x0_1 ++ [(ji7) % 256]) a1 (wrap64 (x7_1 - 1))) else (none)) = some r := by first | (rw [hji7] at H; exact H) | (simp only [hji7] at H ⊢; exact H)
          have hji7_ : (a1 / 2 ^ min (ji5).toNat 64) = ji7 := hji7
          have hji7z : (ji5) ≤ 64 → (a1 / 2 ^ (ji5).toNat) = ji7 := shr_small hji7
          by_cases c8 : x0_1.length < 140737488355328
          · rw [if_pos c8] at H
            have LMc8 := Aside0.mk c8
            clear c8
            obtain ⟨y144, hy144⟩ : ∃ y_ : List Int, y_ = (x0_1 ++ [(ji7) % 256]) := ⟨_, rfl⟩
            replace H : (record_high.l0 k1 y144 a1 (wrap64 (x7_1 - 1))) = some r := by first | (rw [hy144]; with_reducible exact H) | (have H2_ := (Option.bind_some _ _).symm.trans H; rw [hy144]; with_reducible exact H2_) | (have H2_ := (Option.bind_some _ _).symm.trans H; with_reducible exact H2_) | with_reducible exact H | (rw [hy144]; exact H) | exact H
            have Ny144 := Aside0.mk hy144
            clear hy144
            have H' := Aside0.mk H
            clear H
            go_wp2_with (first | ((with_reducible refine gate_builtin (b := .append) (xs := #[.tmp 14, .tmp 20]) rfl ?_); at_builtin; refine Kd.R_append (Kd.int .u8) (w0 := w0) w0.heap.size rfl (.tmp 14) (.tmp 20) 39 5 (.int .u8 0) 1 rfl Tryd.underlying39 info5 rfl (by decide) (by omega) u0 x0_1 ((ji7) % 256) [.int .u8 ((ji7) % 256)] (fun k_ => (P0_ k_ ∨ w.heap.size ≤ k_)) (fun _ => False) rfl rfl ?aP (fun _ hk => hk.elim) ?aF ?aO ?aB ?aS ?aL ?_; (case aP => exact rfl); (case aB => exact (by repeat (first | (with_reducible first | exact HB.out | apply below_alloc | apply pw_below_drewN | apply below_drew1) | exact HB.out))); (case aF => exact (fun k_ hk => (.inr (Nat.le_trans (by first | exact HK.out.1 | exact (show Kept w _ (fun k_ => P0_ k_) from by repeat (first | (with_reducible first | exact HK.out | apply Kept.alloc | apply Kept.drewN | apply Kept.drew) | exact HK.out)).1) hk)))); (case aO => exact (by (with_reducible repeat (first | apply Kd.R_alloc | apply Kd.R_drewN | apply Kd.R_drew)); exact HO_0.out)); (case aS => exact (below_size (by repeat (first | (with_reducible first | exact HB.out | apply below_alloc | apply pw_below_drewN | apply below_drew1) | exact HB.out)))); (case aL => have := LMc8.out; omega); intro v145 w9 ho hb hg hat; rw [← Ny144.out] at ho; have n0_ := Aside0.mk (hb); have n1_ := Aside0.mk (Kept.of_grown (S := (fun k_ => P0_ k_)) hg (by repeat (first | (with_reducible first | exact HK.out | apply Kept.alloc | apply Kept.drewN | apply Kept.drew) | exact HK.out)) (fun k_ e_ => (HO_0.out.1 k_ e_))); have n2_ := Aside0.mk (ho); clear HB; clear HK; clear HO_0; have HB := n0_; have HK := n1_; have HO146 := n2_; clear n0_ n1_ n2_; clear ho hb hg hat))
            go_roundg k1
            case measure => have := HK1.out; omega
            case rel => exact ⟨(y144), (wrap64 (x7_1 - 1)), (by first | rfl | (simp; done) | (simp [*]; done)), H', ⟨by have := HK1.out; omega⟩, ⟨by (with_reducible repeat (first | apply Kd.R_alloc | apply Kd.R_drewN | apply Kd.R_drew)); exact HO146.out⟩, ⟨by repeat (first | (with_reducible first | exact HK.out | apply Kept.alloc | apply Kept.drewN | apply Kept.drew) | exact HK.out)⟩, ⟨by repeat (first | (with_reducible first | exact HB.out | apply below_alloc | apply pw_below_drewN | apply below_drew1) | exact HB.out)⟩⟩
          · rw [if_neg c8] at H
            exact absurd H (by simp)
        · rw [if_neg c6] at H
          exact absurd H (by simp)
      · rw [if_neg c4] at H
        have c4b0 : decide (0 ≤ x7_1) = false := decide_eq_false c4
        clear c4
        obtain rfl := Option.some.inj H
        simp only [Option.some.injEq, Prod.mk.injEq] at H
        obtain ⟨rfl⟩ := H
        go_wp2
        go_ret
        exact ⟨_, by first | rfl | (simp [errW_none, errW_some] <;> rfl) | (simp [*, errW_none, errW_some] <;> rfl), by (with_reducible repeat (first | apply Kd.R_alloc | apply Kd.R_drewN | apply Kd.R_drew)); exact HO_0.out, by repeat (first | (with_reducible first | exact HB.out | apply below_alloc | apply pw_below_drewN | apply below_drew1) | exact HB.out), by repeat (first | (with_reducible first | exact HK.out | apply Kept.alloc | apply Kept.drewN | apply Kept.drew) | exact HK.out)⟩

end Go.Proofs.YtjankdoaobklgaaDoor.Q
end
section
namespace Go.Proofs.YtjankdoaobklgaaDoor.Q
open Go.RowKit Go.Proofs.YtjankdoaobklgaaDoorW.PrintWords Go.Proofs.YtjankdoaobklgaaDoorW.PrintLast

/-- bytes with each 0 marked -/
def esc (l : List Int) (s : List Int) : List Int := s.foldl putB l
/-- a text's key, behind l -/
def keyText (l : List Int) (t : Int) (s : ByteArray) : List Int := esc (l ++ [t]) (bytesOf s) ++ [0, 0]

theorem u8_ne24 (q : Nat) (h : q ∈ 5 :: (Kd.int .u8).E) : q ≠ 24 := by
  cases h with
  | head => decide
  | tail _ h => cases h
theorem esc_length (s : List Int) : ∀ l, (esc l s).length ≤ l.length + 2 * s.length := by
  unfold esc
  induction s with
  | nil => intro l; simp
  | cons x s ih =>
    intro l
    have := ih (putB l x)
    have h2 : (putB l x).length ≤ l.length + 2 := by unfold putB; split <;> simp
    simp only [List.foldl_cons, List.length_cons] at *
    omega
theorem esc_snoc (l : List Int) (s : List Int) (x : Int) : esc l (s ++ [x]) = putB (esc l s) x := by simp [esc]
theorem esc_take (l : List Int) (s : ByteArray) (i : Nat) (h : i < s.size) : esc l ((bytesOf s).take (i + 1)) = putB (esc l ((bytesOf s).take i)) (((s[i]'h).toNat : Nat) : Int) := by
  rw [← esc_snoc, List.take_succ_eq_append_getElem (by simpa [bytesOf] using h)]
  congr 2
  simp [bytesOf]
  rfl
theorem esc_all (s : ByteArray) : (bytesOf s).take s.size = bytesOf s := List.take_of_length_le (by simp [bytesOf])

theorem C_lit2 (w : World) (x y : Int) (e : Nat) : (Kd.int .u8).C (w.alloc (.cells #[.int .u8 x, .int .u8 y] e)) (some ⟨w.heap.size, 0, none⟩) 2 [x, y] := by
  refine ⟨rfl, by omega, fun _ => ⟨_, rfl, fun j p hj => ?_⟩⟩
  have hb := blk_new w (.cells #[.int .u8 x, .int .u8 y] e)
  match j, hj with
  | 0, hj =>
    obtain rfl := Option.some.inj hj
    refine ⟨[.int .u8 x], rfl, rfl, fun i u hu => ?_⟩
    match i, hu with
    | 0, hu => rw [add_plain]; exact (blk_cell hb 0).trans hu
  | 1, hj =>
    obtain rfl := Option.some.inj hj
    refine ⟨[.int .u8 y], rfl, rfl, fun i u hu => ?_⟩
    match i, hu with
    | 0, hu => rw [add_plain]; exact (blk_cell hb 1).trans hu

set_option maxHeartbeats 8000000 in
set_option maxRecDepth 100000 in
theorem record_part_text (k n : Int) (s : ByteArray) (u : Value) (l : List Int) (B : Nat) (P : Nat → Prop) (w : World) (hR : Kd.R (Kd.int .u8) 5 w B P u l) (hB : B ≤ w.heap.size) (hP : ∀ k, w.heap.size ≤ k → P k)
    (hk : (k == 0) = false ∧ (k == 1) = false ∧ (k == 2) = true) (hl : l.length + 2 * s.size + 8 ≤ 140737488355328) :
    Calls Tryd.prog 70 #[u, .agg #[.int .u8 k, .int .i64 n, .string s]] w fun e w' => ∃ v', e = .returned v' ∧ Kd.R (Kd.int .u8) 5 w' B P v' (keyText l 3 s) ∧ Turns w w' P := by
  obtain ⟨k0, k1, k2⟩ := hk
  obtain ⟨A0, c0, rfl⟩ := Kd.R_slice hR
  have hs : s.size ≤ 9223372036854775807 := by omega
  have HR := Aside0.mk hR
  have HP := Aside0.mk hP
  have HL := Aside0.mk hl
  have HBs := Aside0.mk hB
  clear hR hP hl hB
  obtain ⟨l1, hl1⟩ : ∃ l1, l1 = l ++ [3] := ⟨_, rfl⟩
  have N1 := Aside0.mk hl1
  clear hl1
  have hu1 := Tryd.underlying24
  have hu2 := Tryd.underlying39
  go_enter Tryd.func70, Tryd.ntmps70
  go_wp2_with (first
    | ((with_reducible refine gate_dst (N := 2) rfl ?_); refine box_event ?hg (N := 2) ?hd (cs := #[.slice A0 l.length c0]) (t := 39) ?hr ?_; (case hd => rfl); (case hg => rfl); (case hr => first | (go_simp; done) | (go_simp; rfl)); intro g2 hg w2 hbox hb; have HX2 := Aside0.mk hbox; have HT2 := Aside0.mk (Turns.of_below hb P); have HG2 := Aside0.mk (show w.heap.size ≤ g2 by rw [hg]; exact Nat.le_refl _); have HR2 := Aside0.mk (Kd.R_below HR.out hb); clear hg hbox hb)
    | ((with_reducible refine gate_dst (N := 3) rfl ?_); refine box_event ?hg (N := 3) ?hd (cs := #[.int .u8 k, .int .i64 n, .string s]) (t := 24) ?hr ?_; (case hd => rfl); (case hg => rfl); (case hr => first | (go_simp; done) | (go_simp; rfl)); intro g3 hg w3 hbox hb; have HX3 := Aside0.mk hbox; have HY3 := Aside0.mk (blk_below HX2.out hb); have HT3 := Aside0.mk (HT2.out.below hb); have HR3 := Aside0.mk (show Kd.R (Kd.int .u8) 5 w3 B (fun k => P k ∧ k ≠ g3) (.slice A0 l.length c0) l from Kd.R_types (Kd.R_below HR2.out hb) hbox u8_ne24); have HP3 := Aside0.mk (show ∀ k, w3.heap.size ≤ k → P k ∧ k ≠ g3 from fun k hk => ⟨HP.out k (Nat.le_trans HT3.out.size hk), fun e => by have := blk_lt HX3.out; omega⟩); have HN3 := Aside0.mk (blk_ne HY3.out HX3.out (by decide)); have HT3' := Aside0.mk HT3.out.size; have hc30 : w3.cell? ⟨g3, 0, none⟩ = some (.int .u8 k) := (blk_cell HX3.out 0).trans rfl; have hc20 : w3.cell? ⟨g2, 0, none⟩ = some (.slice A0 l.length c0) := (blk_cell HY3.out 0).trans rfl; clear hg hbox hb HX2 HT2 HR2)
    | ((with_reducible refine gate_builtin (b := .append) (xs := #[.tmp 29, .tmp 30]) rfl ?_); at_builtin; refine Kd.R_append (Kd.int .u8) (w0 := w3) B rfl (.tmp 29) (.tmp 30) 39 5 (.int .u8 0) 1 rfl Tryd.underlying39 info_u8 rfl (by decide) (by omega) (.slice A0 l.length c0) l 3 [.int .u8 3] (fun k => P k ∧ k ≠ g3) (fun _ => False) rfl rfl ?aP (fun _ hk => hk.elim) ?aF ?aO ?aB ?aS ?aL ?_; (case aP => exact rfl); (case aB => exact Below.refl _ _); (case aF => exact HP3.out); (case aO => exact HR3.out); (case aS => exact Nat.le_trans HBs.out HT3.out.size); (case aL => have := HL.out; omega); intro v4 w4 ho hb hg hat; rw [← N1.out] at ho; have HX4 := Aside0.mk (blk_grown HX3.out hg (Kd.R_ne HR3.out HX3.out (by decide))); have HY4 := Aside0.mk (blk_grown HY3.out hg (Kd.R_ne HR3.out HY3.out (by decide))); have HT4 := Aside0.mk (HT3.out.of_grown hg (fun k e_ => .inl (HR3.out.1 k e_).1)); have HS4 := Aside0.mk hg.size; have hc40 : w4.cell? ⟨g3, 0, none⟩ = some (.int .u8 k) := (blk_cell HX4.out 0).trans rfl; have hc42 : w4.cell? ⟨g3, 2, none⟩ = some (.string s) := (blk_cell HX4.out 2).trans rfl; have hc41 : w4.cell? ⟨g2, 0, none⟩ = some (.slice A0 l.length c0) := (blk_cell HY4.out 0).trans rfl; have hf41 := blk_frozen HY4.out 0; obtain ⟨A4, c4, e4⟩ := Kd.R_slice ho; subst e4; have HO4 := Aside0.mk ho; clear ho hb hg hat HX3 HY3 HR3 HT3))
  have HC := Aside0.mk (show Cap _ B (fun k => P k ∧ k ≠ g3) g2 l1 from ⟨_, blk_put HY4.out 0 (.slice A4 l1.length c4) rfl, Kd.R_set HO4.out HY4.out u8_ne 0 (.slice A4 l1.length c4)⟩)
  have HX5 := Aside0.mk (blk_far HX4.out (p := ⟨g2, 0, none⟩) (fun e => HN3.out e.symm) (.slice A4 l1.length c4))
  have HT5 := Aside0.mk (HT4.out.setCell (p := ⟨g2, 0, none⟩) (.inl (HP.out _ HG2.out)) (.slice A4 l1.length c4))
  go_loopg [36] s.size (fun kq v w' => ∃ i : Nat, v = .int .i64 i ∧ Aside0 (i + kq = s.size) ∧ Aside0 (Cap w' B (fun k => P k ∧ k ≠ g3) g2 (esc l1 ((bytesOf s).take i))) ∧ Aside0 (w'.heap[g3]? = some (.cells #[.int .u8 k, .int .i64 n, .string s] 24 (0, 0))) ∧ Aside0 (Turns w w' P) ∧ Aside0 (w3.heap.size ≤ w'.heap.size))
  case atStart => exact ⟨0, rfl, ⟨Nat.zero_add _⟩, HC, HX5, HT5, ⟨by rw [size_setCell_]; exact HS4.out⟩⟩
  case round =>
    obtain ⟨i, rfl, HI, HC1, HX1, HT1, HS1⟩ := hrel
    clear HC HX5 HT5 HX4 HY4 HT4 HS4 hc40 hc42 hc41 hf41 HO4 hc30 hc20
    have hc1 : wr.cell? ⟨g3, 2, none⟩ = some (.string s) := (blk_cell HX1.out 2).trans rfl
    by_cases hlt : i < s.size
    · have hd : decide ((i : Int) < (s.size : Int)) = true := decide_eq_true (by omega)
      go_wp2_with fail
      refine (part_put g2 B _ _ _ wr HC1.out ?_ ?_ ?_).mono ?_
      · exact Nat.le_trans (Nat.le_trans HBs.out HT3'.out) HS1.out
      · exact fun k hk => HP3.out k (Nat.le_trans HS1.out hk)
      · have h1 := esc_length ((bytesOf s).take i) l1
        have h2 := HL.out
        have h3 : ((bytesOf s).take i).length ≤ i := List.length_take_le _ _
        have h4 : l1.length = l.length + 1 := by rw [N1.out]; simp
        omega
      rintro e w5 ⟨rfl, hc, ht⟩
      rw [← esc_take l1 s i hlt] at hc
      have HX2 := Aside0.mk (blk_kept HX1.out ht.kept (fun h => h.elim (fun e => HN3.out e.symm) (fun h => h.2 rfl)))
      have HT2 := Aside0.mk (HT1.out.then_ ht (fun k hk => .inl (hk.elim (fun e => by rw [e]; exact HP.out _ HG2.out) (fun h => h.1))))
      have HC2 := Aside0.mk hc
      have HS2 := Aside0.mk (Nat.le_trans HS1.out ht.size)
      clear hc ht
      go_wp2
      go_roundg (gk - 1)
      case measure => have := HI.out; omega
      case rel => exact ⟨i + 1, by go_num, ⟨by have := HI.out; omega⟩, HC2, HX2, HT2, HS2⟩
    · have hd : decide ((i : Int) < (s.size : Int)) = false := decide_eq_false (by omega)
      obtain rfl : i = s.size := by have := HI.out; omega
      have hC := HC1.out
      rw [esc_all] at hC
      obtain ⟨u6_, hb6, hR6⟩ := hC
      obtain ⟨A6, c6, rfl⟩ := Kd.R_slice hR6
      have HB6 := Aside0.mk hb6
      have HR6 := Aside0.mk hR6
      have hc6 : wr.cell? ⟨g2, 0, none⟩ = some (.slice A6 (esc l1 (bytesOf s)).length c6) := (blk_cell hb6 0).trans rfl
      clear hb6 hR6 HC1
      have HLE := Aside0.mk (show (esc l1 (bytesOf s)).length + 2 ≤ 140737488355328 by
        have h1 := esc_length (bytesOf s) l1
        have h2 := HL.out
        have h4 : l1.length = l.length + 1 := by rw [N1.out]; simp
        have h5 : (bytesOf s).length = s.size := by simp [bytesOf]
        omega)
      have NE := Aside0.mk (show esc l1 (bytesOf s) ++ [0, 0] = keyText l 3 s by unfold keyText; rw [N1.out])
      generalize esc l1 (bytesOf s) = l6 at *
      go_wp2_with (first | ((with_reducible refine gate_builtin (b := .append) (xs := #[.tmp 46, .tmp 47]) rfl ?_); at_builtin; refine Kd.R_append_row (Value.int .u8) (0 : Int) (h1 := fun _ => rfl) (w0 := wr.alloc (.cells #[.int .u8 0, .int .u8 0] 5)) B rfl (.tmp 46) (.tmp 47) 39 5 (.int .u8 0) 1 rfl Tryd.underlying39 info_u8 rfl (by omega) (.slice A6 l6.length c6) l6 [0, 0] (some ⟨wr.heap.size, 0, none⟩) 2 2 (fun k => P k ∧ k ≠ g3) rfl rfl ?aF ?aO ?aC ?aB ?aS ?aL ?_; (case aF => exact fun k hk => HP3.out k (by have := HS1.out; simp at hk; omega)); (case aO => exact Kd.R_alloc HR6.out _); (case aC => exact C_lit2 wr 0 0 5); (case aB => exact Below.refl _ _); (case aS => have := HS1.out; have := HT3'.out; have := HBs.out; simp; omega); (case aL => have := HLE.out; omega); intro v7 w7 ho hb hg hat; have HT7 := Aside0.mk ((HT1.out.alloc _).of_grown hg (fun k e_ => .inl (HR6.out.1 k e_).1)); rw [NE.out] at ho; have HO7 := Aside0.mk ho; clear ho hb hg hat))
      go_ret
      exact ⟨_, rfl, Kd.R_mono HO7.out (fun _ h => h.1), HT7.out⟩

set_option maxHeartbeats 8000000 in
set_option maxRecDepth 100000 in
theorem record_part_blob (k n : Int) (s : ByteArray) (u : Value) (l : List Int) (B : Nat) (P : Nat → Prop) (w : World) (hR : Kd.R (Kd.int .u8) 5 w B P u l) (hB : B ≤ w.heap.size) (hP : ∀ k, w.heap.size ≤ k → P k)
    (hk : (k == 0) = false ∧ (k == 1) = false ∧ (k == 2) = false) (hl : l.length + 2 * s.size + 8 ≤ 140737488355328) :
    Calls Tryd.prog 70 #[u, .agg #[.int .u8 k, .int .i64 n, .string s]] w fun e w' => ∃ v', e = .returned v' ∧ Kd.R (Kd.int .u8) 5 w' B P v' (keyText l 4 s) ∧ Turns w w' P := by
  obtain ⟨k0, k1, k2⟩ := hk
  obtain ⟨A0, c0, rfl⟩ := Kd.R_slice hR
  have hs : s.size ≤ 9223372036854775807 := by omega
  have HR := Aside0.mk hR
  have HP := Aside0.mk hP
  have HL := Aside0.mk hl
  have HBs := Aside0.mk hB
  clear hR hP hl hB
  obtain ⟨l1, hl1⟩ : ∃ l1, l1 = l ++ [4] := ⟨_, rfl⟩
  have N1 := Aside0.mk hl1
  clear hl1
  have hu1 := Tryd.underlying24
  have hu2 := Tryd.underlying39
  go_enter Tryd.func70, Tryd.ntmps70
  go_wp2_with (first
    | ((with_reducible refine gate_dst (N := 2) rfl ?_); refine box_event ?hg (N := 2) ?hd (cs := #[.slice A0 l.length c0]) (t := 39) ?hr ?_; (case hd => rfl); (case hg => rfl); (case hr => first | (go_simp; done) | (go_simp; rfl)); intro g2 hg w2 hbox hb; have HX2 := Aside0.mk hbox; have HT2 := Aside0.mk (Turns.of_below hb P); have HG2 := Aside0.mk (show w.heap.size ≤ g2 by rw [hg]; exact Nat.le_refl _); have HR2 := Aside0.mk (Kd.R_below HR.out hb); clear hg hbox hb)
    | ((with_reducible refine gate_dst (N := 3) rfl ?_); refine box_event ?hg (N := 3) ?hd (cs := #[.int .u8 k, .int .i64 n, .string s]) (t := 24) ?hr ?_; (case hd => rfl); (case hg => rfl); (case hr => first | (go_simp; done) | (go_simp; rfl)); intro g3 hg w3 hbox hb; have HX3 := Aside0.mk hbox; have HY3 := Aside0.mk (blk_below HX2.out hb); have HT3 := Aside0.mk (HT2.out.below hb); have HR3 := Aside0.mk (show Kd.R (Kd.int .u8) 5 w3 B (fun k => P k ∧ k ≠ g3) (.slice A0 l.length c0) l from Kd.R_types (Kd.R_below HR2.out hb) hbox u8_ne24); have HP3 := Aside0.mk (show ∀ k, w3.heap.size ≤ k → P k ∧ k ≠ g3 from fun k hk => ⟨HP.out k (Nat.le_trans HT3.out.size hk), fun e => by have := blk_lt HX3.out; omega⟩); have HN3 := Aside0.mk (blk_ne HY3.out HX3.out (by decide)); have HT3' := Aside0.mk HT3.out.size; have hc30 : w3.cell? ⟨g3, 0, none⟩ = some (.int .u8 k) := (blk_cell HX3.out 0).trans rfl; have hc20 : w3.cell? ⟨g2, 0, none⟩ = some (.slice A0 l.length c0) := (blk_cell HY3.out 0).trans rfl; clear hg hbox hb HX2 HT2 HR2)
    | ((with_reducible refine gate_builtin (b := .append) (xs := #[.tmp 9, .tmp 10]) rfl ?_); at_builtin; refine Kd.R_append (Kd.int .u8) (w0 := w3) B rfl (.tmp 9) (.tmp 10) 39 5 (.int .u8 0) 1 rfl Tryd.underlying39 info_u8 rfl (by decide) (by omega) (.slice A0 l.length c0) l 4 [.int .u8 4] (fun k => P k ∧ k ≠ g3) (fun _ => False) rfl rfl ?aP (fun _ hk => hk.elim) ?aF ?aO ?aB ?aS ?aL ?_; (case aP => exact rfl); (case aB => exact Below.refl _ _); (case aF => exact HP3.out); (case aO => exact HR3.out); (case aS => exact Nat.le_trans HBs.out HT3.out.size); (case aL => have := HL.out; omega); intro v4 w4 ho hb hg hat; rw [← N1.out] at ho; have HX4 := Aside0.mk (blk_grown HX3.out hg (Kd.R_ne HR3.out HX3.out (by decide))); have HY4 := Aside0.mk (blk_grown HY3.out hg (Kd.R_ne HR3.out HY3.out (by decide))); have HT4 := Aside0.mk (HT3.out.of_grown hg (fun k e_ => .inl (HR3.out.1 k e_).1)); have HS4 := Aside0.mk hg.size; have hc40 : w4.cell? ⟨g3, 0, none⟩ = some (.int .u8 k) := (blk_cell HX4.out 0).trans rfl; have hc42 : w4.cell? ⟨g3, 2, none⟩ = some (.string s) := (blk_cell HX4.out 2).trans rfl; have hc41 : w4.cell? ⟨g2, 0, none⟩ = some (.slice A0 l.length c0) := (blk_cell HY4.out 0).trans rfl; have hf41 := blk_frozen HY4.out 0; obtain ⟨A4, c4, e4⟩ := Kd.R_slice ho; subst e4; have HO4 := Aside0.mk ho; clear ho hb hg hat HX3 HY3 HR3 HT3))
  have HC := Aside0.mk (show Cap _ B (fun k => P k ∧ k ≠ g3) g2 l1 from ⟨_, blk_put HY4.out 0 (.slice A4 l1.length c4) rfl, Kd.R_set HO4.out HY4.out u8_ne 0 (.slice A4 l1.length c4)⟩)
  have HX5 := Aside0.mk (blk_far HX4.out (p := ⟨g2, 0, none⟩) (fun e => HN3.out e.symm) (.slice A4 l1.length c4))
  have HT5 := Aside0.mk (HT4.out.setCell (p := ⟨g2, 0, none⟩) (.inl (HP.out _ HG2.out)) (.slice A4 l1.length c4))
  go_loopg [36] s.size (fun kq v w' => ∃ i : Nat, v = .int .i64 i ∧ Aside0 (i + kq = s.size) ∧ Aside0 (Cap w' B (fun k => P k ∧ k ≠ g3) g2 (esc l1 ((bytesOf s).take i))) ∧ Aside0 (w'.heap[g3]? = some (.cells #[.int .u8 k, .int .i64 n, .string s] 24 (0, 0))) ∧ Aside0 (Turns w w' P) ∧ Aside0 (w3.heap.size ≤ w'.heap.size))
  case atStart => exact ⟨0, rfl, ⟨Nat.zero_add _⟩, HC, HX5, HT5, ⟨by rw [size_setCell_]; exact HS4.out⟩⟩
  case round =>
    obtain ⟨i, rfl, HI, HC1, HX1, HT1, HS1⟩ := hrel
    clear HC HX5 HT5 HX4 HY4 HT4 HS4 hc40 hc42 hc41 hf41 HO4 hc30 hc20
    have hc1 : wr.cell? ⟨g3, 2, none⟩ = some (.string s) := (blk_cell HX1.out 2).trans rfl
    by_cases hlt : i < s.size
    · have hd : decide ((i : Int) < (s.size : Int)) = true := decide_eq_true (by omega)
      go_wp2_with fail
      refine (part_put g2 B _ _ _ wr HC1.out ?_ ?_ ?_).mono ?_
      · exact Nat.le_trans (Nat.le_trans HBs.out HT3'.out) HS1.out
      · exact fun k hk => HP3.out k (Nat.le_trans HS1.out hk)
      · have h1 := esc_length ((bytesOf s).take i) l1
        have h2 := HL.out
        have h3 : ((bytesOf s).take i).length ≤ i := List.length_take_le _ _
        have h4 : l1.length = l.length + 1 := by rw [N1.out]; simp
        omega
      rintro e w5 ⟨rfl, hc, ht⟩
      rw [← esc_take l1 s i hlt] at hc
      have HX2 := Aside0.mk (blk_kept HX1.out ht.kept (fun h => h.elim (fun e => HN3.out e.symm) (fun h => h.2 rfl)))
      have HT2 := Aside0.mk (HT1.out.then_ ht (fun k hk => .inl (hk.elim (fun e => by rw [e]; exact HP.out _ HG2.out) (fun h => h.1))))
      have HC2 := Aside0.mk hc
      have HS2 := Aside0.mk (Nat.le_trans HS1.out ht.size)
      clear hc ht
      go_wp2
      go_roundg (gk - 1)
      case measure => have := HI.out; omega
      case rel => exact ⟨i + 1, by go_num, ⟨by have := HI.out; omega⟩, HC2, HX2, HT2, HS2⟩
    · have hd : decide ((i : Int) < (s.size : Int)) = false := decide_eq_false (by omega)
      obtain rfl : i = s.size := by have := HI.out; omega
      have hC := HC1.out
      rw [esc_all] at hC
      obtain ⟨u6_, hb6, hR6⟩ := hC
      obtain ⟨A6, c6, rfl⟩ := Kd.R_slice hR6
      have HB6 := Aside0.mk hb6
      have HR6 := Aside0.mk hR6
      have hc6 : wr.cell? ⟨g2, 0, none⟩ = some (.slice A6 (esc l1 (bytesOf s)).length c6) := (blk_cell hb6 0).trans rfl
      clear hb6 hR6 HC1
      have HLE := Aside0.mk (show (esc l1 (bytesOf s)).length + 2 ≤ 140737488355328 by
        have h1 := esc_length (bytesOf s) l1
        have h2 := HL.out
        have h4 : l1.length = l.length + 1 := by rw [N1.out]; simp
        have h5 : (bytesOf s).length = s.size := by simp [bytesOf]
        omega)
      have NE := Aside0.mk (show esc l1 (bytesOf s) ++ [0, 0] = keyText l 4 s by unfold keyText; rw [N1.out])
      generalize esc l1 (bytesOf s) = l6 at *
      go_wp2_with (first | ((with_reducible refine gate_builtin (b := .append) (xs := #[.tmp 46, .tmp 47]) rfl ?_); at_builtin; refine Kd.R_append_row (Value.int .u8) (0 : Int) (h1 := fun _ => rfl) (w0 := wr.alloc (.cells #[.int .u8 0, .int .u8 0] 5)) B rfl (.tmp 46) (.tmp 47) 39 5 (.int .u8 0) 1 rfl Tryd.underlying39 info_u8 rfl (by omega) (.slice A6 l6.length c6) l6 [0, 0] (some ⟨wr.heap.size, 0, none⟩) 2 2 (fun k => P k ∧ k ≠ g3) rfl rfl ?aF ?aO ?aC ?aB ?aS ?aL ?_; (case aF => exact fun k hk => HP3.out k (by have := HS1.out; simp at hk; omega)); (case aO => exact Kd.R_alloc HR6.out _); (case aC => exact C_lit2 wr 0 0 5); (case aB => exact Below.refl _ _); (case aS => have := HS1.out; have := HT3'.out; have := HBs.out; simp; omega); (case aL => have := HLE.out; omega); intro v7 w7 ho hb hg hat; have HT7 := Aside0.mk ((HT1.out.alloc _).of_grown hg (fun k e_ => .inl (HR6.out.1 k e_).1)); rw [NE.out] at ho; have HO7 := Aside0.mk ho; clear ho hb hg hat))
      go_ret
      exact ⟨_, rfl, Kd.R_mono HO7.out (fun _ h => h.1), HT7.out⟩

end Go.Proofs.YtjankdoaobklgaaDoor.Q
end
section
namespace Go.Proofs.YtjankdoaobklgaaDoor.Q
open Go.RowKit Go.Proofs.YtjankdoaobklgaaDoorW.PrintWords Go.Proofs.YtjankdoaobklgaaDoorW.PrintLast Go.Proofs.YtjankdoaobklgaaDoorW.PrintMore

theorem high_step (k : Nat) (x : List Int) (a i : Int) (h0 : 0 ≤ i) (h7 : i ≤ 7) (hl : x.length < 140737488355328) :
    record_high.l0 (k + 1) x a i = record_high.l0 k (x ++ [(shr .u64 a (8 * i)) % 256]) a (i - 1) := by
  have e1 : wrap64 (8 * i) = 8 * i := by unfold wrap64; omega
  have e2 : wrap64 (i - 1) = i - 1 := by unfold wrap64; omega
  simp only [record_high.l0]
  rw [if_pos h0, e1, e2, if_pos (by omega), if_pos hl]
theorem high_end (k : Nat) (x : List Int) (a i : Int) (h0 : i < 0) : record_high.l0 (k + 1) x a i = some x := by
  simp only [record_high.l0]
  rw [if_neg (by omega)]
def be8 (a : Int) : List Int := [(shr .u64 a 56) % 256, (shr .u64 a 48) % 256, (shr .u64 a 40) % 256, (shr .u64 a 32) % 256, (shr .u64 a 24) % 256, (shr .u64 a 16) % 256, (shr .u64 a 8) % 256, (shr .u64 a 0) % 256]
theorem high8 (x : List Int) (a : Int) (hl : x.length + 8 ≤ 140737488355328) : record_high.f 9 x a 8 = some (x ++ be8 a) := by
  unfold record_high.f
  rw [show wrap64 (8 - 1) = 7 by unfold wrap64; omega, high_step _ _ _ _ (by omega) (by omega) (by omega), high_step _ _ _ _ (by omega) (by omega) (by simp; omega), high_step _ _ _ _ (by omega) (by omega) (by simp; omega), high_step _ _ _ _ (by omega) (by omega) (by simp; omega), high_step _ _ _ _ (by omega) (by omega) (by simp; omega), high_step _ _ _ _ (by omega) (by omega) (by simp; omega), high_step _ _ _ _ (by omega) (by omega) (by simp; omega), high_step _ _ _ _ (by omega) (by omega) (by simp; omega), high_end _ _ _ _ (by omega)]
  simp [be8]

/-- an int's key, behind l -/
def keyInt (l : List Int) (n : Int) : List Int := l ++ [2] ++ be8 (Go.bits .xor .u64 (IntKind.u64.wrap n) 9223372036854775808)

set_option maxHeartbeats 8000000 in
set_option maxRecDepth 100000 in
theorem record_part_int (n : Int) (s : ByteArray) (u : Value) (l : List Int) (B : Nat) (P : Nat → Prop) (w : World) (hR : Kd.R (Kd.int .u8) 5 w B P u l) (hB : B ≤ w.heap.size) (hP : ∀ k, w.heap.size ≤ k → P k)
    (hl : l.length + 16 ≤ 140737488355328) :
    Calls Tryd.prog 70 #[u, .agg #[.int .u8 1, .int .i64 n, .string s]] w fun e w' => ∃ v', e = .returned v' ∧ Kd.R (Kd.int .u8) 5 w' B P v' (keyInt l n) ∧ Turns w w' P := by
  obtain ⟨A0, c0, rfl⟩ := Kd.R_slice hR
  have HR := Aside0.mk hR
  have HP := Aside0.mk hP
  have HL := Aside0.mk hl
  have HBs := Aside0.mk hB
  clear hR hP hl hB
  obtain ⟨l1, hl1⟩ : ∃ l1, l1 = l ++ [2] := ⟨_, rfl⟩
  have N1 := Aside0.mk hl1
  clear hl1
  have HLE := Aside0.mk (show l1.length + 8 ≤ 140737488355328 by rw [N1.out]; have := HL.out; simp; omega)
  have hu1 := Tryd.underlying24
  have hu2 := Tryd.underlying39
  go_enter Tryd.func70, Tryd.ntmps70
  go_wp2_with (first
    | ((with_reducible refine gate_dst (N := 2) rfl ?_); refine box_event ?hg (N := 2) ?hd (cs := #[.slice A0 l.length c0]) (t := 39) ?hr ?_; (case hd => rfl); (case hg => rfl); (case hr => first | (go_simp; done) | (go_simp; rfl)); intro g2 hg w2 hbox hb; have HX2 := Aside0.mk hbox; have HT2 := Aside0.mk (Turns.of_below hb P); have HG2 := Aside0.mk (show w.heap.size ≤ g2 by rw [hg]; exact Nat.le_refl _); have HR2 := Aside0.mk (Kd.R_below HR.out hb); clear hg hbox hb)
    | ((with_reducible refine gate_dst (N := 3) rfl ?_); refine box_event ?hg (N := 3) ?hd (cs := #[.int .u8 1, .int .i64 n, .string s]) (t := 24) ?hr ?_; (case hd => rfl); (case hg => rfl); (case hr => first | (go_simp; done) | (go_simp; rfl)); intro g3 hg w3 hbox hb; have HX3 := Aside0.mk hbox; have HY3 := Aside0.mk (blk_below HX2.out hb); have HT3 := Aside0.mk (HT2.out.below hb); have HR3 := Aside0.mk (show Kd.R (Kd.int .u8) 5 w3 B (fun k => (P k ∧ k ≠ g3) ∧ k ≠ g2) (.slice A0 l.length c0) l from Kd.R_types (Kd.R_types (Kd.R_below HR2.out hb) hbox u8_ne24) HY3.out u8_ne); have HP3 := Aside0.mk (show ∀ k, w3.heap.size ≤ k → (P k ∧ k ≠ g3) ∧ k ≠ g2 from fun k hk => ⟨⟨HP.out k (Nat.le_trans HT3.out.size hk), fun e => by have := blk_lt HX3.out; omega⟩, fun e => by have := blk_lt HY3.out; omega⟩); have HN3 := Aside0.mk (blk_ne HY3.out HX3.out (by decide)); have HT3' := Aside0.mk HT3.out.size; have hc30 : w3.cell? ⟨g3, 0, none⟩ = some (.int .u8 1) := (blk_cell HX3.out 0).trans rfl; have hc31 : w3.cell? ⟨g3, 1, none⟩ = some (.int .i64 n) := (blk_cell HX3.out 1).trans rfl; have hc20 : w3.cell? ⟨g2, 0, none⟩ = some (.slice A0 l.length c0) := (blk_cell HY3.out 0).trans rfl; clear hg hbox hb HX2 HT2 HR2))
  go_region_held3 (fun w' => w'.cell? ⟨g3, 1, none⟩ = some (.int .i64 n) ∧ w'.cell? ⟨g2, 0, none⟩ = some (.slice A0 l.length c0)) (first | go_keep | trivial) (first | (refine Kd.R_append_step (Kd.int .u8) (w0 := w3) (W := w3.drew) B ?cW (.tmp 19) (.tmp 20) 39 5 (.int .u8 0) 1 rfl Tryd.underlying39 info_u8 rfl (by decide) (by omega) (.slice A0 l.length c0) l 2 [.int .u8 2] (fun k => (P k ∧ k ≠ g3) ∧ k ≠ g2) (fun _ => False) ?cS ?cX ?aP (fun _ hk => hk.elim) ?aF ?aO ?aB ?aS ?aL ?_; (case cW => rfl); (case cS => rfl); (case cX => rfl); (case aP => exact rfl); (case aB => exact (Below.refl _ _).drew); (case aF => exact HP3.out); (case aO => exact HR3.out); (case aS => exact Nat.le_trans HBs.out HT3'.out); (case aL => have := HL.out; omega); intro v4 w4 ho hb hg hat; rw [← N1.out] at ho; have hc41 : w4.cell? ⟨g3, 1, none⟩ = some (.int .i64 n) := (blk_cell (blk_grown (w := w3.drew) HX3.out hg (Kd.R_ne HR3.out HX3.out (by decide))) 1).trans rfl; have hc40 : w4.cell? ⟨g2, 0, none⟩ = some (.slice A0 l.length c0) := (blk_cell (blk_grown (w := w3.drew) HY3.out hg (Kd.R_ne HR3.out HY3.out (by decide))) 0).trans rfl; have HT4 := Aside0.mk (HT3.out.drew.of_grown hg (fun k e_ => .inl (HR3.out.1 k e_).1.1)); have HS4 := Aside0.mk hg.size; obtain ⟨A4, c4, e4⟩ := Kd.R_slice ho; subst e4; have HO4 := Aside0.mk ho; clear ho hb hg hat) | (go_at_call 88; refine (record_high.calls 9 (fun k => (P k ∧ k ≠ g3) ∧ k ≠ g2) (.slice A4 l1.length c4) l1 (Go.bits .xor .u64 (IntKind.u64.wrap n) 9223372036854775808) 8 (l1 ++ be8 (Go.bits .xor .u64 (IntKind.u64.wrap n) 9223372036854775808)) (cutW w4 B) w4 ?dB ?dO ?dH).mono ?_; (case dB => exact cutW_below (Nat.le_trans HBs.out (Nat.le_trans HT3'.out HS4.out))); (case dO => rw [cutW_size (Nat.le_trans HBs.out (Nat.le_trans HT3'.out HS4.out))]; exact HO4.out); (case dH => exact high8 _ _ HLE.out); rintro e w5 ⟨v5, rfl, ho, hb, hk⟩; rw [cutW_size (Nat.le_trans HBs.out (Nat.le_trans HT3'.out HS4.out))] at ho; have HO5 := Aside0.mk ho; have HT5 := Aside0.mk (HT4.out.then_ (turns_of_cut hb hk) (fun k hk => .inl hk.1.1)); have hc51 : w5.cell? ⟨g3, 1, none⟩ = some (.int .i64 n) := cell_kept hc41 hk (fun h => h.1.2 rfl); have hc50 : w5.cell? ⟨g2, 0, none⟩ = some (.slice A0 l.length c0) := cell_kept hc40 hk (fun h => h.2 rfl); clear ho hb hk))
  go_wp2
  go_ret
  exact ⟨_, rfl, by have := Kd.R_mono HO5.out (fun k h => h.elim (fun h => h.1.1) (fun h => HP.out k (Nat.le_trans HT4.out.size h))); rw [N1.out] at this; exact this, HT5.out⟩
end Go.Proofs.YtjankdoaobklgaaDoor.Q
end
section
namespace Go.Proofs.YtjankdoaobklgaaDoor.Q
open Go.RowKit Go.Proofs.YtjankdoaobklgaaDoorW.PrintWords Go.Proofs.YtjankdoaobklgaaDoorW.PrintLast Go.Proofs.YtjankdoaobklgaaDoorW.PrintMore
attribute [local go_sem] max2_int min2_int max_two min_two max_three min_three max_four min_four   -- for this text's walks alone
set_option linter.unusedVariables false
set_option linter.unusedSimpArgs false

/-! ### value_Right: function 27 -/
def value_Right.f (a0_0 : Int) (a0_1 : Int) (a0_2 : ByteArray) : Option (Bool) := if a0_0 = 0 then (if a0_1 = 0 then (some (a0_2.toList == ([] : List UInt8))) else (some false)) else (if a0_0 = 1 then (some (a0_2.toList == ([] : List UInt8))) else (if a0_0 = 2 then (if a0_1 = 0 then (some (decide ((a0_2.size : Int) ≤ 65536))) else (some false)) else (if a0_0 = 3 then (if a0_1 = 0 then (some (decide ((a0_2.size : Int) ≤ 65536))) else (some false)) else (some false))))
set_option maxHeartbeats 8000000 in
set_option maxRecDepth 100000 in
theorem value_Right.calls (a0_0 : Int) (a0_1 : Int) (a0_2 : ByteArray) (r : Bool) (w : World) (h : value_Right.f a0_0 a0_1 a0_2 = some r) :
    Calls Tryd.prog 27 #[.agg #[.int .u8 a0_0, .int .i64 a0_1, .string a0_2]] w fun e w' => e = .returned (.bool r) ∧ Below w.heap.size w w' := by
  have hu24 := Tryd.underlying24
  have HB := Aside0.mk (Below.refl w.heap.size w)
  have H : (if a0_0 = 0 then (if a0_1 = 0 then (some (a0_2.toList == ([] : List UInt8))) else (some false)) else (if a0_0 = 1 then (some (a0_2.toList == ([] : List UInt8))) else (if a0_0 = 2 then (if a0_1 = 0 then (some (decide ((a0_2.size : Int) ≤ 65536))) else (some false)) else (if a0_0 = 3 then (if a0_1 = 0 then (some (decide ((a0_2.size : Int) ≤ 65536))) else (some false)) else (some false))))) = some r := h
  clear h
  by_cases c2 : a0_0 = 0
  · rw [if_pos c2] at H
    have c2b0 : (a0_0 == 0) = true := beq_iff_eq.mpr c2
    have c2b1 : (a0_0 != 0) = false := bne_eq_false_iff_eq.mpr c2
    clear c2
    by_cases c3 : a0_1 = 0
    · rw [if_pos c3] at H
      have c3b0 : (a0_1 == 0) = true := beq_iff_eq.mpr c3
      have c3b1 : (a0_1 != 0) = false := bne_eq_false_iff_eq.mpr c3
      clear c3
      obtain rfl := Option.some.inj H
      simp only [Option.some.injEq, Prod.mk.injEq] at H
      obtain ⟨rfl⟩ := H
      go_enter Tryd.func27, Tryd.ntmps27
      go_wp2_with (first | ((with_reducible refine gate_dst (N := 1) rfl ?_); (try (refine gate_guard (by rfl) ?_; dsimp only)); refine box_event ?hg (N := 1) ?hd (cs := #[.int .u8 a0_0, .int .i64 a0_1, .string a0_2]) (t := 24) ?hr ?_; (case hd => rfl); (case hg => rfl); (case hr => first | (go_simp; done) | (go_simp; rfl)); intro gb143 hg w4 hbox hb; have n0_ := Aside0.mk (below_step (by repeat (first | (with_reducible first | exact HB.out | apply below_alloc | apply pw_below_drewN | apply below_drew1) | exact HB.out)) hb); have n1_ := Aside0.mk (hbox); have n2_ := Aside0.mk ((by rw [hg]; exact (below_size (by repeat (first | (with_reducible first | exact HB.out | apply below_alloc | apply pw_below_drewN | apply below_drew1) | exact HB.out))) : w.heap.size ≤ gb143)); have n3_ := Aside0.mk ((by rw [hg]; exact (below_size (by repeat (first | (with_reducible first | exact HB.out | apply below_alloc | apply pw_below_drewN | apply below_drew1) | exact HB.out))) : w.heap.size ≤ gb143)); clear HB; have HB := n0_; have BK143 := n1_; have GW143 := n2_; have GE143 := n3_; clear n0_ n1_ n2_ n3_; clear hb hbox hg; have hcz5_0 : w4.cell? ⟨gb143, 0, none⟩ = some (.int .u8 a0_0) := (blk_cell BK143.out 0).trans rfl; have hcz5_1 : w4.cell? ⟨gb143, 1, none⟩ = some (.int .i64 a0_1) := (blk_cell BK143.out 1).trans rfl; have hcz5_2 : w4.cell? ⟨gb143, 2, none⟩ = some (.string a0_2) := (blk_cell BK143.out 2).trans rfl; have hfz5_0 := blk_frozen BK143.out 0; have hfz5_1 := blk_frozen BK143.out 1; have hfz5_2 := blk_frozen BK143.out 2))
      go_ret
      exact ⟨by first | rfl | (simp [errW_none, errW_some] <;> rfl) | (simp [*, errW_none, errW_some] <;> rfl), by repeat (first | (with_reducible first | exact HB.out | apply below_alloc | apply pw_below_drewN | apply below_drew1 | refine below_set ?_ GE143.out) | exact HB.out)⟩
    · rw [if_neg c3] at H
      have c3b0 : (a0_1 == 0) = false := beq_eq_false_iff_ne.mpr c3
      have c3b1 : (a0_1 != 0) = true := bne_iff_ne.mpr c3
      obtain rfl := Option.some.inj H
      simp only [Option.some.injEq, Prod.mk.injEq] at H
      obtain ⟨rfl⟩ := H
      go_enter Tryd.func27, Tryd.ntmps27
      go_wp2_with (first | ((with_reducible refine gate_dst (N := 1) rfl ?_); (try (refine gate_guard (by rfl) ?_; dsimp only)); refine box_event ?hg (N := 1) ?hd (cs := #[.int .u8 a0_0, .int .i64 a0_1, .string a0_2]) (t := 24) ?hr ?_; (case hd => rfl); (case hg => rfl); (case hr => first | (go_simp; done) | (go_simp; rfl)); intro gb143 hg w6 hbox hb; have n0_ := Aside0.mk (below_step (by repeat (first | (with_reducible first | exact HB.out | apply below_alloc | apply pw_below_drewN | apply below_drew1) | exact HB.out)) hb); have n1_ := Aside0.mk (hbox); have n2_ := Aside0.mk ((by rw [hg]; exact (below_size (by repeat (first | (with_reducible first | exact HB.out | apply below_alloc | apply pw_below_drewN | apply below_drew1) | exact HB.out))) : w.heap.size ≤ gb143)); have n3_ := Aside0.mk ((by rw [hg]; exact (below_size (by repeat (first | (with_reducible first | exact HB.out | apply below_alloc | apply pw_below_drewN | apply below_drew1) | exact HB.out))) : w.heap.size ≤ gb143)); clear HB; have HB := n0_; have BK143 := n1_; have GW143 := n2_; have GE143 := n3_; clear n0_ n1_ n2_ n3_; clear hb hbox hg; have hcz7_0 : w6.cell? ⟨gb143, 0, none⟩ = some (.int .u8 a0_0) := (blk_cell BK143.out 0).trans rfl; have hcz7_1 : w6.cell? ⟨gb143, 1, none⟩ = some (.int .i64 a0_1) := (blk_cell BK143.out 1).trans rfl; have hcz7_2 : w6.cell? ⟨gb143, 2, none⟩ = some (.string a0_2) := (blk_cell BK143.out 2).trans rfl; have hfz7_0 := blk_frozen BK143.out 0; have hfz7_1 := blk_frozen BK143.out 1; have hfz7_2 := blk_frozen BK143.out 2))
      go_ret
      exact ⟨by first | rfl | (simp [errW_none, errW_some] <;> rfl) | (simp [*, errW_none, errW_some] <;> rfl), by repeat (first | (with_reducible first | exact HB.out | apply below_alloc | apply pw_below_drewN | apply below_drew1 | refine below_set ?_ GE143.out) | exact HB.out)⟩
  · rw [if_neg c2] at H
    have c2b0 : (a0_0 == 0) = false := beq_eq_false_iff_ne.mpr c2
    have c2b1 : (a0_0 != 0) = true := bne_iff_ne.mpr c2
    by_cases c8 : a0_0 = 1
    · rw [if_pos c8] at H
      have c8b0 : (a0_0 == 1) = true := beq_iff_eq.mpr c8
      have c8b1 : (a0_0 != 1) = false := bne_eq_false_iff_eq.mpr c8
      clear c8
      obtain rfl := Option.some.inj H
      simp only [Option.some.injEq, Prod.mk.injEq] at H
      obtain ⟨rfl⟩ := H
      go_enter Tryd.func27, Tryd.ntmps27
      go_wp2_with (first | ((with_reducible refine gate_dst (N := 1) rfl ?_); (try (refine gate_guard (by rfl) ?_; dsimp only)); refine box_event ?hg (N := 1) ?hd (cs := #[.int .u8 a0_0, .int .i64 a0_1, .string a0_2]) (t := 24) ?hr ?_; (case hd => rfl); (case hg => rfl); (case hr => first | (go_simp; done) | (go_simp; rfl)); intro gb143 hg w9 hbox hb; have n0_ := Aside0.mk (below_step (by repeat (first | (with_reducible first | exact HB.out | apply below_alloc | apply pw_below_drewN | apply below_drew1) | exact HB.out)) hb); have n1_ := Aside0.mk (hbox); have n2_ := Aside0.mk ((by rw [hg]; exact (below_size (by repeat (first | (with_reducible first | exact HB.out | apply below_alloc | apply pw_below_drewN | apply below_drew1) | exact HB.out))) : w.heap.size ≤ gb143)); have n3_ := Aside0.mk ((by rw [hg]; exact (below_size (by repeat (first | (with_reducible first | exact HB.out | apply below_alloc | apply pw_below_drewN | apply below_drew1) | exact HB.out))) : w.heap.size ≤ gb143)); clear HB; have HB := n0_; have BK143 := n1_; have GW143 := n2_; have GE143 := n3_; clear n0_ n1_ n2_ n3_; clear hb hbox hg; have hcz10_0 : w9.cell? ⟨gb143, 0, none⟩ = some (.int .u8 a0_0) := (blk_cell BK143.out 0).trans rfl; have hcz10_1 : w9.cell? ⟨gb143, 1, none⟩ = some (.int .i64 a0_1) := (blk_cell BK143.out 1).trans rfl; have hcz10_2 : w9.cell? ⟨gb143, 2, none⟩ = some (.string a0_2) := (blk_cell BK143.out 2).trans rfl; have hfz10_0 := blk_frozen BK143.out 0; have hfz10_1 := blk_frozen BK143.out 1; have hfz10_2 := blk_frozen BK143.out 2))
      go_ret
      exact ⟨by first | rfl | (simp [errW_none, errW_some] <;> rfl) | (simp [*, errW_none, errW_some] <;> rfl), by repeat (first | (with_reducible first | exact HB.out | apply below_alloc | apply pw_below_drewN | apply below_drew1 | refine below_set ?_ GE143.out) | exact HB.out)⟩
    · rw [if_neg c8] at H
      have c8b0 : (a0_0 == 1) = false := beq_eq_false_iff_ne.mpr c8
      have c8b1 : (a0_0 != 1) = true := bne_iff_ne.mpr c8
      by_cases c11 : a0_0 = 2
      · rw [if_pos c11] at H
        have c11b0 : (a0_0 == 2) = true := beq_iff_eq.mpr c11
        have c11b1 : (a0_0 != 2) = false := bne_eq_false_iff_eq.mpr c11
        clear c11
        by_cases c12 : a0_1 = 0
        · rw [if_pos c12] at H
          have c12b0 : (a0_1 == 0) = true := beq_iff_eq.mpr c12
          have c12b1 : (a0_1 != 0) = false := bne_eq_false_iff_eq.mpr c12
          clear c12
          obtain rfl := Option.some.inj H
          simp only [Option.some.injEq, Prod.mk.injEq] at H
          obtain ⟨rfl⟩ := H
          go_enter Tryd.func27, Tryd.ntmps27
          go_wp2_with (first | ((with_reducible refine gate_dst (N := 1) rfl ?_); (try (refine gate_guard (by rfl) ?_; dsimp only)); refine box_event ?hg (N := 1) ?hd (cs := #[.int .u8 a0_0, .int .i64 a0_1, .string a0_2]) (t := 24) ?hr ?_; (case hd => rfl); (case hg => rfl); (case hr => first | (go_simp; done) | (go_simp; rfl)); intro gb143 hg w13 hbox hb; have n0_ := Aside0.mk (below_step (by repeat (first | (with_reducible first | exact HB.out | apply below_alloc | apply pw_below_drewN | apply below_drew1) | exact HB.out)) hb); have n1_ := Aside0.mk (hbox); have n2_ := Aside0.mk ((by rw [hg]; exact (below_size (by repeat (first | (with_reducible first | exact HB.out | apply below_alloc | apply pw_below_drewN | apply below_drew1) | exact HB.out))) : w.heap.size ≤ gb143)); have n3_ := Aside0.mk ((by rw [hg]; exact (below_size (by repeat (first | (with_reducible first | exact HB.out | apply below_alloc | apply pw_below_drewN | apply below_drew1) | exact HB.out))) : w.heap.size ≤ gb143)); clear HB; have HB := n0_; have BK143 := n1_; have GW143 := n2_; have GE143 := n3_; clear n0_ n1_ n2_ n3_; clear hb hbox hg; have hcz14_0 : w13.cell? ⟨gb143, 0, none⟩ = some (.int .u8 a0_0) := (blk_cell BK143.out 0).trans rfl; have hcz14_1 : w13.cell? ⟨gb143, 1, none⟩ = some (.int .i64 a0_1) := (blk_cell BK143.out 1).trans rfl; have hcz14_2 : w13.cell? ⟨gb143, 2, none⟩ = some (.string a0_2) := (blk_cell BK143.out 2).trans rfl; have hfz14_0 := blk_frozen BK143.out 0; have hfz14_1 := blk_frozen BK143.out 1; have hfz14_2 := blk_frozen BK143.out 2))
          go_ret
          exact ⟨by first | rfl | (simp [errW_none, errW_some] <;> rfl) | (simp [*, errW_none, errW_some] <;> rfl), by repeat (first | (with_reducible first | exact HB.out | apply below_alloc | apply pw_below_drewN | apply below_drew1 | refine below_set ?_ GE143.out) | exact HB.out)⟩
        · rw [if_neg c12] at H
          have c12b0 : (a0_1 == 0) = false := beq_eq_false_iff_ne.mpr c12
          have c12b1 : (a0_1 != 0) = true := bne_iff_ne.mpr c12
          obtain rfl := Option.some.inj H
          simp only [Option.some.injEq, Prod.mk.injEq] at H
          obtain ⟨rfl⟩ := H
          go_enter Tryd.func27, Tryd.ntmps27
          go_wp2_with (first | ((with_reducible refine gate_dst (N := 1) rfl ?_); (try (refine gate_guard (by rfl) ?_; dsimp only)); refine box_event ?hg (N := 1) ?hd (cs := #[.int .u8 a0_0, .int .i64 a0_1, .string a0_2]) (t := 24) ?hr ?_; (case hd => rfl); (case hg => rfl); (case hr => first | (go_simp; done) | (go_simp; rfl)); intro gb143 hg w15 hbox hb; have n0_ := Aside0.mk (below_step (by repeat (first | (with_reducible first | exact HB.out | apply below_alloc | apply pw_below_drewN | apply below_drew1) | exact HB.out)) hb); have n1_ := Aside0.mk (hbox); have n2_ := Aside0.mk ((by rw [hg]; exact (below_size (by repeat (first | (with_reducible first | exact HB.out | apply below_alloc | apply pw_below_drewN | apply below_drew1) | exact HB.out))) : w.heap.size ≤ gb143)); have n3_ := Aside0.mk ((by rw [hg]; exact (below_size (by repeat (first | (with_reducible first | exact HB.out | apply below_alloc | apply pw_below_drewN | apply below_drew1) | exact HB.out))) : w.heap.size ≤ gb143)); clear HB; have HB := n0_; have BK143 := n1_; have GW143 := n2_; have GE143 := n3_; clear n0_ n1_ n2_ n3_; clear hb hbox hg; have hcz16_0 : w15.cell? ⟨gb143, 0, none⟩ = some (.int .u8 a0_0) := (blk_cell BK143.out 0).trans rfl; have hcz16_1 : w15.cell? ⟨gb143, 1, none⟩ = some (.int .i64 a0_1) := (blk_cell BK143.out 1).trans rfl; have hcz16_2 : w15.cell? ⟨gb143, 2, none⟩ = some (.string a0_2) := (blk_cell BK143.out 2).trans rfl; have hfz16_0 := blk_frozen BK143.out 0; have hfz16_1 := blk_frozen BK143.out 1; have hfz16_2 := blk_frozen BK143.out 2))
          go_ret
          exact ⟨by first | rfl | (simp [errW_none, errW_some] <;> rfl) | (simp [*, errW_none, errW_some] <;> rfl), by repeat (first | (with_reducible first | exact HB.out | apply below_alloc | apply pw_below_drewN | apply below_drew1 | refine below_set ?_ GE143.out) | exact HB.out)⟩
      · rw [if_neg c11] at H
        have c11b0 : (a0_0 == 2) = false := beq_eq_false_iff_ne.mpr c11
        have c11b1 : (a0_0 != 2) = true := bne_iff_ne.mpr c11
        by_cases c17 : a0_0 = 3
        · rw [if_pos c17] at H
          have c17b0 : (a0_0 == 3) = true := beq_iff_eq.mpr c17
          have c17b1 : (a0_0 != 3) = false := bne_eq_false_iff_eq.mpr c17
          clear c17
          by_cases c18 : a0_1 = 0
          · rw [if_pos c18] at H
            have c18b0 : (a0_1 == 0) = true := beq_iff_eq.mpr c18
            have c18b1 : (a0_1 != 0) = false := bne_eq_false_iff_eq.mpr c18
            clear c18
            obtain rfl := Option.some.inj H
            simp only [Option.some.injEq, Prod.mk.injEq] at H
            obtain ⟨rfl⟩ := H
            go_enter Tryd.func27, Tryd.ntmps27
            go_wp2_with (first | ((with_reducible refine gate_dst (N := 1) rfl ?_); (try (refine gate_guard (by rfl) ?_; dsimp only)); refine box_event ?hg (N := 1) ?hd (cs := #[.int .u8 a0_0, .int .i64 a0_1, .string a0_2]) (t := 24) ?hr ?_; (case hd => rfl); (case hg => rfl); (case hr => first | (go_simp; done) | (go_simp; rfl)); intro gb143 hg w19 hbox hb; have n0_ := Aside0.mk (below_step (by repeat (first | (with_reducible first | exact HB.out | apply below_alloc | apply pw_below_drewN | apply below_drew1) | exact HB.out)) hb); have n1_ := Aside0.mk (hbox); have n2_ := Aside0.mk ((by rw [hg]; exact (below_size (by repeat (first | (with_reducible first | exact HB.out | apply below_alloc | apply pw_below_drewN | apply below_drew1) | exact HB.out))) : w.heap.size ≤ gb143)); have n3_ := Aside0.mk ((by rw [hg]; exact (below_size (by repeat (first | (with_reducible first | exact HB.out | apply below_alloc | apply pw_below_drewN | apply below_drew1) | exact HB.out))) : w.heap.size ≤ gb143)); clear HB; have HB := n0_; have BK143 := n1_; have GW143 := n2_; have GE143 := n3_; clear n0_ n1_ n2_ n3_; clear hb hbox hg; have hcz20_0 : w19.cell? ⟨gb143, 0, none⟩ = some (.int .u8 a0_0) := (blk_cell BK143.out 0).trans rfl; have hcz20_1 : w19.cell? ⟨gb143, 1, none⟩ = some (.int .i64 a0_1) := (blk_cell BK143.out 1).trans rfl; have hcz20_2 : w19.cell? ⟨gb143, 2, none⟩ = some (.string a0_2) := (blk_cell BK143.out 2).trans rfl; have hfz20_0 := blk_frozen BK143.out 0; have hfz20_1 := blk_frozen BK143.out 1; have hfz20_2 := blk_frozen BK143.out 2))
            go_ret
            exact ⟨by first | rfl | (simp [errW_none, errW_some] <;> rfl) | (simp [*, errW_none, errW_some] <;> rfl), by repeat (first | (with_reducible first | exact HB.out | apply below_alloc | apply pw_below_drewN | apply below_drew1 | refine below_set ?_ GE143.out) | exact HB.out)⟩
          · rw [if_neg c18] at H
            have c18b0 : (a0_1 == 0) = false := beq_eq_false_iff_ne.mpr c18
            have c18b1 : (a0_1 != 0) = true := bne_iff_ne.mpr c18
            obtain rfl := Option.some.inj H
            simp only [Option.some.injEq, Prod.mk.injEq] at H
            obtain ⟨rfl⟩ := H
            go_enter Tryd.func27, Tryd.ntmps27
            go_wp2_with (first | ((with_reducible refine gate_dst (N := 1) rfl ?_); (try (refine gate_guard (by rfl) ?_; dsimp only)); refine box_event ?hg (N := 1) ?hd (cs := #[.int .u8 a0_0, .int .i64 a0_1, .string a0_2]) (t := 24) ?hr ?_; (case hd => rfl); (case hg => rfl); (case hr => first | (go_simp; done) | (go_simp; rfl)); intro gb143 hg w21 hbox hb; have n0_ := Aside0.mk (below_step (by repeat (first | (with_reducible first | exact HB.out | apply below_alloc | apply pw_below_drewN | apply below_drew1) | exact HB.out)) hb); have n1_ := Aside0.mk (hbox); have n2_ := Aside0.mk ((by rw [hg]; exact (below_size (by repeat (first | (with_reducible first | exact HB.out | apply below_alloc | apply pw_below_drewN | apply below_drew1) | exact HB.out))) : w.heap.size ≤ gb143)); have n3_ := Aside0.mk ((by rw [hg]; exact (below_size (by repeat (first | (with_reducible first | exact HB.out | apply below_alloc | apply pw_below_drewN | apply below_drew1) | exact HB.out))) : w.heap.size ≤ gb143)); clear HB; have HB := n0_; have BK143 := n1_; have GW143 := n2_; have GE143 := n3_; clear n0_ n1_ n2_ n3_; clear hb hbox hg; have hcz22_0 : w21.cell? ⟨gb143, 0, none⟩ = some (.int .u8 a0_0) := (blk_cell BK143.out 0).trans rfl; have hcz22_1 : w21.cell? ⟨gb143, 1, none⟩ = some (.int .i64 a0_1) := (blk_cell BK143.out 1).trans rfl; have hcz22_2 : w21.cell? ⟨gb143, 2, none⟩ = some (.string a0_2) := (blk_cell BK143.out 2).trans rfl; have hfz22_0 := blk_frozen BK143.out 0; have hfz22_1 := blk_frozen BK143.out 1; have hfz22_2 := blk_frozen BK143.out 2))
            go_ret
            exact ⟨by first | rfl | (simp [errW_none, errW_some] <;> rfl) | (simp [*, errW_none, errW_some] <;> rfl), by repeat (first | (with_reducible first | exact HB.out | apply below_alloc | apply pw_below_drewN | apply below_drew1 | refine below_set ?_ GE143.out) | exact HB.out)⟩
        · rw [if_neg c17] at H
          have c17b0 : (a0_0 == 3) = false := beq_eq_false_iff_ne.mpr c17
          have c17b1 : (a0_0 != 3) = true := bne_iff_ne.mpr c17
          obtain rfl := Option.some.inj H
          simp only [Option.some.injEq, Prod.mk.injEq] at H
          obtain ⟨rfl⟩ := H
          go_enter Tryd.func27, Tryd.ntmps27
          go_wp2_with (first | ((with_reducible refine gate_dst (N := 1) rfl ?_); (try (refine gate_guard (by rfl) ?_; dsimp only)); refine box_event ?hg (N := 1) ?hd (cs := #[.int .u8 a0_0, .int .i64 a0_1, .string a0_2]) (t := 24) ?hr ?_; (case hd => rfl); (case hg => rfl); (case hr => first | (go_simp; done) | (go_simp; rfl)); intro gb143 hg w23 hbox hb; have n0_ := Aside0.mk (below_step (by repeat (first | (with_reducible first | exact HB.out | apply below_alloc | apply pw_below_drewN | apply below_drew1) | exact HB.out)) hb); have n1_ := Aside0.mk (hbox); have n2_ := Aside0.mk ((by rw [hg]; exact (below_size (by repeat (first | (with_reducible first | exact HB.out | apply below_alloc | apply pw_below_drewN | apply below_drew1) | exact HB.out))) : w.heap.size ≤ gb143)); have n3_ := Aside0.mk ((by rw [hg]; exact (below_size (by repeat (first | (with_reducible first | exact HB.out | apply below_alloc | apply pw_below_drewN | apply below_drew1) | exact HB.out))) : w.heap.size ≤ gb143)); clear HB; have HB := n0_; have BK143 := n1_; have GW143 := n2_; have GE143 := n3_; clear n0_ n1_ n2_ n3_; clear hb hbox hg; have hcz24_0 : w23.cell? ⟨gb143, 0, none⟩ = some (.int .u8 a0_0) := (blk_cell BK143.out 0).trans rfl; have hcz24_1 : w23.cell? ⟨gb143, 1, none⟩ = some (.int .i64 a0_1) := (blk_cell BK143.out 1).trans rfl; have hcz24_2 : w23.cell? ⟨gb143, 2, none⟩ = some (.string a0_2) := (blk_cell BK143.out 2).trans rfl; have hfz24_0 := blk_frozen BK143.out 0; have hfz24_1 := blk_frozen BK143.out 1; have hfz24_2 := blk_frozen BK143.out 2))
          go_ret
          exact ⟨by first | rfl | (simp [errW_none, errW_some] <;> rfl) | (simp [*, errW_none, errW_some] <;> rfl), by repeat (first | (with_reducible first | exact HB.out | apply below_alloc | apply pw_below_drewN | apply below_drew1 | refine below_set ?_ GE143.out) | exact HB.out)⟩

end Go.Proofs.YtjankdoaobklgaaDoor.Q
end
section
namespace Go.Proofs.YtjankdoaobklgaaDoor.Q
open Go.RowKit Go.Proofs.YtjankdoaobklgaaDoorW.PrintWords Go.Proofs.YtjankdoaobklgaaDoorW.PrintLast

/-- where the first one stands, from i on; -1: none -/
def idxG (p : S24 → Bool) (l : List S24) (i : Nat) : Int :=
  match (l.drop i).findIdx? p with
  | some j => ((i + j : Nat) : Int)
  | none => -1
def idxF (p : S24 → Bool) (l : List S24) : Int := idxG p l 0
theorem idxG_hit (p : S24 → Bool) (l : List S24) (i : Nat) (h : i < l.length) (hp : p l[i] = true) : idxG p l i = (i : Int) := by
  unfold idxG
  rw [List.drop_eq_getElem_cons h, List.findIdx?_cons, hp]
  simp
theorem idxG_miss (p : S24 → Bool) (l : List S24) (i : Nat) (h : i < l.length) (hp : p l[i] = false) : idxG p l i = idxG p l (i + 1) := by
  unfold idxG
  rw [List.drop_eq_getElem_cons h, List.findIdx?_cons, hp]
  simp only [Bool.false_eq_true, if_false]
  cases (l.drop (i + 1)).findIdx? p <;> simp <;> omega
theorem idxG_end (p : S24 → Bool) (l : List S24) (i : Nat) (h : l.length ≤ i) : idxG p l i = -1 := by
  unfold idxG
  rw [List.drop_eq_nil_of_le h]
  rfl
theorem idxF_any (p : S24 → Bool) (l : List S24) : l.any p = decide (0 ≤ idxF p l) := by
  unfold idxF idxG
  rw [List.drop_zero]
  cases h : l.findIdx? p with
  | none =>
    have := List.findIdx?_eq_none_iff.1 h
    simp
    exact fun x hx => by simpa using this x hx
  | some j =>
    obtain ⟨h1, h2, _⟩ := List.findIdx?_eq_some_iff_getElem.1 h
    simp
    exact ⟨_, List.getElem_mem h1, h2⟩

/-- a right value -/
def rightV (x : S24) : Bool := (value_Right.f x.f0 x.f1 x.f2).getD false
theorem right_some (a : Int) (b : Int) (s : ByteArray) : ∃ r, value_Right.f a b s = some r := by
  unfold value_Right.f
  repeat' split
  all_goals exact ⟨_, rfl⟩
theorem rightV_f (x : S24) : value_Right.f x.f0 x.f1 x.f2 = some (rightV x) := by
  obtain ⟨r, hr⟩ := right_some x.f0 x.f1 x.f2
  unfold rightV
  rw [hr]
  rfl
def wrongV (x : S24) : Bool := !rightV x

set_option maxHeartbeats 8000000 in
set_option maxRecDepth 100000 in
theorem right_lit (x : S24) (w : World) :
    Calls Tryd.prog 87 #[.agg #[.int .u8 x.f0, .int .i64 x.f1, .string x.f2]] w fun e w' => e = .returned (.bool (wrongV x)) ∧ Below w.heap.size w w' := by
  have hu1 := Tryd.underlying24
  have HF := Aside0.mk (rightV_f x)
  unfold wrongV
  go_enter Tryd.func87, Tryd.ntmps87
  go_wp2_with fail
  refine (value_Right.calls x.f0 x.f1 x.f2 (rightV x) _ HF.out).mono ?_
  rintro e w5 ⟨rfl, hb⟩
  go_wp2
  go_ret
  exact ⟨rfl, below_step (below_alloc (Below.refl _ _) _) hb⟩

set_option maxHeartbeats 8000000 in
set_option maxRecDepth 100000 in
theorem index_wrong (A : Option Addr) (c : Nat) (l : List S24) (w : World) (hr : Kd.C k24 w A l.length l) :
    Calls Tryd.prog 100 #[.slice A l.length c, .func (.func 87) #[] #[]] w fun e w' => e = .returned (.int .i64 (idxF wrongV l)) ∧ Below w.heap.size w w' := by
  have HR := Aside0.mk hr
  have hm : l.length ≤ 9223372036854775807 := hr.2.1
  have hu1 := Tryd.underlying24
  clear hr
  go_enter Tryd.func100, Tryd.ntmps100
  go_wp2
  go_loopg [8] l.length (fun kq v w' => ∃ i : Nat, v = .int .i64 i ∧ Aside0 (i + kq = l.length) ∧ Aside0 (idxF wrongV l = idxG wrongV l i) ∧ Aside0 (Below w.heap.size w w'))
  case atStart => exact ⟨0, rfl, ⟨Nat.zero_add _⟩, ⟨rfl⟩, ⟨Below.refl _ _⟩⟩
  case round =>
    obtain ⟨i, rfl, HI, HX, HB⟩ := hrel
    by_cases hlt : i < l.length
    · have hd : decide ((i : Int) < (l.length : Int)) = true := decide_eq_true (by omega)
      have p1 : 0 ≤ (i : Int) := by omega
      have q1 : (i : Int) < (l.length : Int) := by omega
      obtain ⟨ad, e1, hx0, hx1, hx2⟩ := at_T24 HR.out (i : Int) p1 q1
      cases e1
      replace hx0 := (HB.out.cell (World.block_lt_of_cell? w _ hx0)).trans hx0
      replace hx1 := (HB.out.cell (World.block_lt_of_cell? w _ hx1)).trans hx1
      replace hx2 := (HB.out.cell (World.block_lt_of_cell? w _ hx2)).trans hx2
      have HV := Aside0.mk (show rd_T24 l (i : Int) = l[i] by simp [rd_T24, List.getD_eq_getElem?_getD, List.getElem?_eq_getElem hlt])
      rw [HV.out, Int.toNat_natCast] at hx0 hx1 hx2
      have hq1 := eq_true p1
      have hq2 := eq_true q1
      clear p1 q1
      by_cases hp : wrongV l[i] = true
      · have HP := Aside0.mk hp
        have HE := Aside0.mk (idxG_hit wrongV l i hlt hp)
        clear hp
        go_wp2_with fail
        refine (right_lit l[i] _).mono ?_
        rintro e w5 ⟨rfl, hb⟩
        rw [HP.out]
        have HB2 := Aside0.mk (below_step HB.out hb)
        clear hb
        go_wp2
        go_ret
        exact ⟨(by rw [HX.out, HE.out]; first | done | rfl), HB2.out⟩
      · have HP := Aside0.mk (Bool.eq_false_iff.mpr hp)
        have HE := Aside0.mk (idxG_miss wrongV l i hlt (Bool.eq_false_iff.mpr hp))
        clear hp
        go_wp2_with fail
        refine (right_lit l[i] _).mono ?_
        rintro e w5 ⟨rfl, hb⟩
        rw [HP.out]
        have HB2 := Aside0.mk (below_step HB.out hb)
        clear hb
        go_wp2
        go_roundg (gk - 1)
        case measure => have := HI.out; omega
        case rel => exact ⟨i + 1, by go_num, ⟨by have := HI.out; omega⟩, ⟨HX.out.trans HE.out⟩, HB2⟩
    · have hd : decide ((i : Int) < (l.length : Int)) = false := decide_eq_false (by omega)
      have HE := Aside0.mk (idxG_end wrongV l i (by omega))
      go_wp2
      go_ret
      exact ⟨(by rw [HX.out, HE.out]; first | done | rfl), HB.out⟩

set_option maxHeartbeats 8000000 in
set_option maxRecDepth 100000 in
theorem contains_wrong (A : Option Addr) (c : Nat) (l : List S24) (w : World) (hr : Kd.C k24 w A l.length l) :
    Calls Tryd.prog 86 #[.slice A l.length c, .func (.func 87) #[] #[]] w fun e w' => e = .returned (.bool (l.any wrongV)) ∧ Below w.heap.size w w' := by
  by_cases h : 0 ≤ idxF wrongV l
  · have HH := Aside0.mk (idxF_any wrongV l)
    have hd : decide (0 ≤ idxF wrongV l) = true := decide_eq_true h
    rw [decide_eq_true h] at HH
    clear h
    go_enter Tryd.func86, Tryd.ntmps86
    go_wp2_with fail
    refine (index_wrong A c l _ hr).mono ?_
    rintro e w5 ⟨rfl, hb⟩
    go_wp2
    go_ret
    exact ⟨(by rw [HH.out]; first | done | rfl), hb⟩
  · have HH := Aside0.mk (idxF_any wrongV l)
    have hd : decide (0 ≤ idxF wrongV l) = false := decide_eq_false h
    rw [decide_eq_false h] at HH
    clear h
    go_enter Tryd.func86, Tryd.ntmps86
    go_wp2_with fail
    refine (index_wrong A c l _ hr).mono ?_
    rintro e w5 ⟨rfl, hb⟩
    go_wp2
    go_ret
    exact ⟨(by rw [HH.out]; first | done | rfl), hb⟩

set_option maxHeartbeats 8000000 in
set_option maxRecDepth 100000 in
/-- record.right at a short row of right values. -/
theorem record_right_ok (A : Option Addr) (c : Nat) (l : List S24) (w : World) (hr : Kd.C k24 w A l.length l) (hn : l.length ≤ 200) (ho : l.any wrongV = false) :
    Calls Tryd.prog 69 #[.slice A l.length c] w fun e w' => e = .returned (.int .i64 0) ∧ Below w.heap.size w w' := by
  have HO := Aside0.mk ho
  have hd : decide ((200 : Int) < (l.length : Int)) = false := decide_eq_false (by omega)
  clear ho
  go_enter Tryd.func69, Tryd.ntmps69
  go_wp2_with fail
  refine (contains_wrong A c l _ hr).mono ?_
  rintro e w5 ⟨rfl, hb⟩
  rw [HO.out]
  go_wp2
  go_ret
  exact ⟨rfl, hb⟩
end Go.Proofs.YtjankdoaobklgaaDoor.Q
end
section
namespace Go.Proofs.YtjankdoaobklgaaDoor.Q
open Go.RowKit Go.Proofs.YtjankdoaobklgaaDoorW.PrintWords Go.Proofs.YtjankdoaobklgaaDoorW.PrintLast Go.Proofs.YtjankdoaobklgaaDoorW.PrintMore

def keyV (x : S24) : List Int := if x.f0 = 1 then keyInt [] x.f1 else if x.f0 = 2 then keyText [] 3 x.f2 else keyText [] 4 x.f2

theorem keyV_length (x : S24) (hs : x.f2.size ≤ 65536) : (keyV x).length ≤ 1048576 := by
  unfold keyV
  split
  · simp [keyInt, be8]
  · have h (t : Int) : (keyText [] t x.f2).length ≤ 1048576 := by
      have h1 := esc_length (bytesOf x.f2) ([] ++ [t])
      have h2 : (bytesOf x.f2).length = x.f2.size := by simp [bytesOf]
      unfold keyText
      simp at h1 ⊢
      omega
    split
    · exact h 3
    · exact h 4

theorem right_kinds (x : S24) (h : rightV x = true) : (x.f0 = 0 ∨ x.f0 = 1 ∨ x.f0 = 2 ∨ x.f0 = 3) ∧ x.f2.size ≤ 65536 := by
  have hf := rightV_f x
  rw [h] at hf
  unfold value_Right.f at hf
  have hz : ∀ s : ByteArray, (s.toList == ([] : List UInt8)) = true → s.size ≤ 65536 := by
    intro s hs
    have h1 : s.toList = [] := by simpa using hs
    rw [toList_nil_iff_emptyBytes] at h1
    rw [h1]
    decide
  repeat' split at hf
  all_goals rw [Option.some.injEq] at hf
  all_goals first
    | exact absurd hf Bool.false_ne_true
    | exact ⟨by omega, hz _ hf⟩
    | exact ⟨by omega, by have := of_decide_eq_true hf; omega⟩

theorem record_part_any (x : S24) (w : World) (hk : x.f0 = 1 ∨ x.f0 = 2 ∨ x.f0 = 3) (hs : x.f2.size ≤ 65536) (B : Nat) (hB : B ≤ w.heap.size) :
    Calls Tryd.prog 70 #[.slice none 0 0, .agg #[.int .u8 x.f0, .int .i64 x.f1, .string x.f2]] w fun e w' => ∃ v', e = .returned v' ∧ Kd.R (Kd.int .u8) 5 w' B (fun k => w.heap.size ≤ k) v' (keyV x) ∧ Below w.heap.size w w' := by
  have hn := Kd.R_nil (Kd.int .u8) 5 w B (fun k => w.heap.size ≤ k)
  rcases hk with hk | hk | hk
  · have e : keyV x = keyInt [] x.f1 := by unfold keyV; rw [if_pos hk]
    rw [e, hk]
    refine (record_part_int x.f1 x.f2 _ [] B _ w hn hB (fun _ h => h) (by simp)).mono ?_
    rintro e w' ⟨v, rfl, hR, hT⟩
    exact ⟨v, rfl, hR, hT.toBelow (Nat.le_refl _) (fun _ h => h)⟩
  · have e : keyV x = keyText [] 3 x.f2 := by unfold keyV; rw [if_neg (by omega), if_pos hk]
    rw [e, hk]
    refine (record_part_text 2 x.f1 x.f2 _ [] B _ w hn hB (fun _ h => h) (by decide) (by simp; omega)).mono ?_
    rintro e w' ⟨v, rfl, hR, hT⟩
    exact ⟨v, rfl, hR, hT.toBelow (Nat.le_refl _) (fun _ h => h)⟩
  · have e : keyV x = keyText [] 4 x.f2 := by unfold keyV; rw [if_neg (by omega), if_neg (by omega)]
    rw [e, hk]
    refine (record_part_blob 3 x.f1 x.f2 _ [] B _ w hn hB (fun _ h => h) (by decide) (by simp; omega)).mono ?_
    rintro e w' ⟨v, rfl, hR, hT⟩
    exact ⟨v, rfl, hR, hT.toBelow (Nat.le_refl _) (fun _ h => h)⟩

set_option maxHeartbeats 8000000 in
set_option maxRecDepth 100000 in
theorem record_key1 (x : S24) (A Ad : Option Addr) (c cd : Nat) (w : World) (hr : Kd.C k24 w A 1 [x]) (hd : Kd.C Kd.bool w Ad 1 [false]) (hx : rightV x = true) (hk : x.f0 ≠ 0) :
    Calls Tryd.prog 51 #[.slice A 1 c, .slice Ad 1 cd] w fun e w' => ∃ v', e = .returned (.tuple #[v', .int .i64 0]) ∧ Kd.R (Kd.int .u8) 5 w' w.heap.size (fun _ => True) v' (keyV x) ∧ Below w.heap.size w w' := by
  obtain ⟨hk1, hs⟩ := right_kinds x hx
  have HK := Aside0.mk (show x.f0 = 1 ∨ x.f0 = 2 ∨ x.f0 = 3 by omega)
  have HS := Aside0.mk hs
  have HR := Aside0.mk hr
  have HD := Aside0.mk hd
  have HL := Aside0.mk (keyV_length x hs)
  have HA := Aside0.mk (show [x].any wrongV = false by simp [wrongV, hx])
  obtain ⟨ad, e1, hx0, hx1, hx2⟩ := at_T24 (n := 1) hr 0 (by omega) (by omega)
  cases e1
  obtain ⟨add, e1, hy0⟩ := Kd.at_bool hd 0 (by omega) (by omega)
  cases e1
  have hu1 := Tryd.underlying24
  clear hk hk1 hs hr hd hx
  go_enter Tryd.func51, Tryd.ntmps51
  have hx0' : w.cell? ad = some (.int .u8 x.f0) := hx0
  have hx1' : w.cell? ⟨ad.block, ad.off + 1, none⟩ = some (.int .i64 x.f1) := hx1
  have hx2' : w.cell? ⟨ad.block, ad.off + 2, none⟩ = some (.string x.f2) := hx2
  have hy0' : w.cell? add = some (.bool false) := hy0
  clear hx0 hx1 hx2 hy0
  go_wp2_with fail
  refine (record_right_ok (some ad) c [x] w HR.out (by simp) HA.out).mono ?_
  rintro e w1 ⟨rfl, hb⟩
  have HB := Aside0.mk hb
  clear hb
  go_wp2
  go_loopg [7, 23] 1 (fun kq v7 v23 w' => ∃ i : Nat, v23 = .int .i64 i ∧ Aside0 (i + kq = 1) ∧ Aside0 (i = 0 → v7 = .slice none 0 0) ∧ Aside0 (i = 1 → Kd.R (Kd.int .u8) 5 w' w.heap.size (fun _ => True) v7 (keyV x)) ∧ Aside0 (Below w.heap.size w w'))
  case atStart => exact ⟨0, rfl, ⟨rfl⟩, ⟨fun _ => rfl⟩, ⟨fun h => by omega⟩, HB⟩
  case round =>
    obtain ⟨i, rfl, HI, H0, H1, HB1⟩ := hrel
    have hx0 : wr.cell? ad = some (.int .u8 x.f0) := (HB1.out.cell (World.block_lt_of_cell? w _ hx0')).trans hx0'
    have hx1 : wr.cell? ⟨ad.block, ad.off + 1, none⟩ = some (.int .i64 x.f1) := (HB1.out.cell (World.block_lt_of_cell? w _ hx1')).trans hx1'
    have hx2 : wr.cell? ⟨ad.block, ad.off + 2, none⟩ = some (.string x.f2) := (HB1.out.cell (World.block_lt_of_cell? w _ hx2')).trans hx2'
    clear hx0' hx1' hx2'
    by_cases hi : i = 0
    · subst hi
      obtain rfl := H0.out rfl
      have HI1 := Aside0.mk (show gk = 1 by have := HI.out; omega)
      clear H0 H1 HI
      go_wp2_with fail
      refine (record_part_any x _ HK.out HS.out w.heap.size (by have := HB1.out.size; simp; omega)).mono ?_
      rintro e w5 ⟨v5, rfl, hR, hb⟩
      have HB5 := Aside0.mk (below_step (below_alloc HB1.out _) hb)
      have hy5 : w5.cell? add = some (.bool false) := (HB5.out.cell (World.block_lt_of_cell? w _ hy0')).trans hy0'
      obtain ⟨A5, c5, e5⟩ := Kd.R_slice hR
      subst e5
      have HR5 := Aside0.mk (Kd.R_mono (ok' := fun _ => True) hR (fun _ _ => trivial))
      have hd5 : decide ((1048576 : Int) < ((keyV x).length : Int)) = false := decide_eq_false (by have := HL.out; omega)
      clear hR hb
      go_wp2
      go_roundg 0
      case measure => have := HI1.out; omega
      case rel => exact ⟨1, rfl, ⟨by omega⟩, ⟨fun h => by omega⟩, ⟨fun _ => HR5.out⟩, HB5⟩
    · obtain rfl : i = 1 := by have := HI.out; omega
      obtain ⟨A7, c7, e7⟩ := Kd.R_slice (H1.out rfl)
      have HR1 := H1.out rfl
      subst e7
      have HR7 := Aside0.mk HR1
      clear HR1 H0 H1 hi
      go_wp2
      go_ret2
      exact ⟨_, rfl, HR7.out, HB1.out⟩
end Go.Proofs.YtjankdoaobklgaaDoor.Q
end
section
namespace Go.Proofs.YtjankdoaobklgaaDoor.Q
open Go.RowKit Go.Proofs.YtjankdoaobklgaaDoorW.PrintWords Go.Proofs.YtjankdoaobklgaaDoorW.PrintLast Go.Proofs.YtjankdoaobklgaaDoorW.PrintMore
open Go.Maps (Keyed)

/-- a value's key, as the map's -/
def kstr (x : S24) : ByteArray := strOfNums (keyV x)
noncomputable abbrev accR : Value → Option (DataW Unit × List MemPlace) := plainElem Tryd.prog 3
/-- D tells how often each key came. -/
def SeenD (D : DataW Unit) (seen : List (List UInt8)) : Prop :=
  Maps.IsMap D ∧ ∀ k : List UInt8, D.atKey (.string k) (.lit (.int .i64 0)) = .lit (.int .i64 (seen.count k : Nat))
theorem string_k : Keyed Tryd.prog 9 := Maps.string_keyed Tryd.underlying9

theorem seen_put {D : DataW Unit} {seen : List (List UInt8)} (h : SeenD D seen) (k : List UInt8) : SeenD (D.put (.string k) (.lit (.int .i64 ((seen.count k : Nat) + 1 : Int)))) (k :: seen) := by
  refine ⟨h.1.put _ _, fun k' => ?_⟩
  by_cases e : k' = k
  · subst e
    rw [Maps.atKey_put_same (k := .string k') h.1 trivial]
    simp
  · rw [Maps.atKey_put_other (k := .string k) (k' := .string k') (fun he => e (by injection he)), h.2 k']
    rw [List.count_cons_of_ne (fun h => e h.symm)]

theorem seen_new : SeenD (.map []) [] := ⟨⟨[], rfl⟩, fun _ => rfl⟩

/-- An Acc at block g, its blocks all in P, its row's from B on. -/
structure IsAcc (w : World) (B : Nat) (P : Nat → Prop) (g : Nat) (s : AccS) (lv : Value) (m : Nat) (D : DataW Unit) : Prop where
  blk : w.heap[g]? = some (.cells (accCells s lv m) 31 (0, 0))
  pg : P g
  row : Kd.R k24 24 w B P lv s.l
  pm : P m
  map : w.ownsMap Tryd.prog 9 accR m s.seen.length D
  seen : SeenD D s.seen
  hi0 : 0 ≤ s.hi
  lo0 : 0 ≤ s.lo
  lo1 : s.lo < 18446744073709551616

theorem v_ne31 (q : Nat) (h : q ∈ 24 :: k24.E) : q ≠ 31 := by
  cases h with
  | head => decide
  | tail _ h => cases h

/-- a map's block is no row of cells -/
theorem own_map_ne {w : World} {m nn g t : Nat} {D : DataW Unit} {cs : Array Value} (h : w.ownsMap Tryd.prog 9 accR m nn D) (hb : w.heap[g]? = some (.cells cs t (0, 0))) : m ≠ g := by
  rintro rfl
  obtain ⟨es, clock, h1, _⟩ := h
  rw [hb] at h1
  injection h1 with h1
  cases h1
theorem row_map_ne {w : World} {B m nn : Nat} {P : Nat → Prop} {D : DataW Unit} {v : Value} {l : List S24} (h : w.ownsMap Tryd.prog 9 accR m nn D) (hr : Kd.R k24 24 w B P v l) : Kd.R k24 24 w B (fun k => P k ∧ k ≠ m) v l :=
  Kd.R_mono (Kd.R_bound hr) (fun k hk => ⟨hk.1, fun e => by
    obtain ⟨_, _, _, q, _, cells, hc⟩ := hk
    exact own_map_ne h hc e.symm⟩)
theorem map_move {w w1 : World} {m nn : Nat} {D : DataW Unit} (h : w.ownsMap Tryd.prog 9 accR m nn D) (hm : w1.heap[m]? = w.heap[m]?) : w1.ownsMap Tryd.prog 9 accR m nn D := by
  obtain ⟨es, clock, h1, h2⟩ := h
  exact ⟨es, clock, hm.trans h1, h2⟩

/-- one element in a block of its own, read as a row -/
theorem C_one {α : Type} (d : Kd α) {W : World} {g e : Nat} {x : α} {cs : List Value} (hK : d.K W x cs) (hb : W.heap[g]? = some (.cells cs.toArray e (0, 0))) : d.C W (some ⟨g, 0, none⟩) 1 [x] := by
  refine ⟨rfl, by omega, fun _ => ⟨_, rfl, fun j p hj => ?_⟩⟩
  match j, hj with
  | 0, hj =>
    obtain rfl := Option.some.inj hj
    refine ⟨cs, d.K_len hK, hK, fun i u hu => ?_⟩
    rw [add_plain, Nat.zero_mul, Nat.zero_add]
    exact (blk_cell hb i).trans (by simpa using hu)

section
variable {w w1 : World} {B g m : Nat} {P : Nat → Prop} {s : AccS} {lv : Value} {D : DataW Unit}
theorem IsAcc.below (h : IsAcc w B P g s lv m D) (hb : Below w.heap.size w w1) : IsAcc w1 B P g s lv m D :=
  ⟨blk_below h.blk hb, h.pg, Kd.R_below h.row hb, h.pm, map_move h.map (hb.block m h.map.lt), h.seen, h.hi0, h.lo0, h.lo1⟩
theorem IsAcc.mono {P' : Nat → Prop} (h : IsAcc w B P g s lv m D) (hp : ∀ k, P k → P' k) : IsAcc w B P' g s lv m D :=
  ⟨h.blk, hp _ h.pg, Kd.R_mono h.row hp, hp _ h.pm, h.map, h.seen, h.hi0, h.lo0, h.lo1⟩
theorem IsAcc.kept {S : Nat → Prop} (h : IsAcc w B P g s lv m D) (hk : Kept w w1 S) (hs : ∀ k, P k → ¬ S k) : IsAcc w1 B P g s lv m D :=
  ⟨blk_kept h.blk hk (hs _ h.pg), h.pg, Kd.R_kept h.row hk hs, h.pm, map_move h.map (hk.2 m h.map.lt (hs _ h.pm)), h.seen, h.hi0, h.lo0, h.lo1⟩
end
end Go.Proofs.YtjankdoaobklgaaDoor.Q
end
section
namespace Go.Proofs.YtjankdoaobklgaaDoor.Q
open Go.RowKit Go.Proofs.YtjankdoaobklgaaDoorW.PrintWords Go.Proofs.YtjankdoaobklgaaDoorW.PrintLast Go.Proofs.YtjankdoaobklgaaDoorW.PrintMore
open Go.Maps (Keyed)

def countStar : ByteArray := ⟨#[99, 111, 117, 110, 116, 42]⟩

set_option maxHeartbeats 8000000 in
set_option maxRecDepth 100000 in
theorem agg_counts_seen (g m B : Nat) (P : Nat → Prop) (s : AccS) (lv : Value) (D : DataW Unit) (x : S24) (w : World) (ha : IsAcc w B P g s lv m D) (hn : (s.name.toList == [99, 111, 117, 110, 116, 42]) = false) (h0 : (x.f0 == 0) = false) (hd : s.dist = true) (hx : rightV x = true) (hl : s.seen.length < 9223372036854775807) :
    Calls Tryd.prog 28 #[.pointer (some ⟨g, 0, none⟩), .agg #[.int .u8 x.f0, .int .i64 x.f1, .string x.f2]] w fun e w' => ∃ D', e = .returned (.bool (((s.seen.count (kstr x).data.toList : Nat) : Int) == 0)) ∧ IsAcc w' B P g { s with seen := (kstr x).data.toList :: s.seen } lv m D' ∧ Turns w w' (fun k => k = m) := by
  have hcz0 : w.cell? ⟨g, 0, none⟩ = some (.string s.name) := (blk_cell ha.blk 0).trans rfl
  have hcz1 : w.cell? ⟨g, 1, none⟩ = some (.bool true) := by rw [← hd]; exact (blk_cell ha.blk 1).trans rfl
  have HA := Aside0.mk ha
  have HX := Aside0.mk hx
  have HL := Aside0.mk hl
  have H0 := Aside0.mk h0
  clear ha hx hl hd
  have hu1 := Tryd.underlying24
  go_enter Tryd.func28, Tryd.ntmps28
  go_wp2_with (first
    | ((with_reducible refine gate_dst (N := 3) rfl ?_); refine box_event ?hg (N := 3) ?hd (cs := #[.int .u8 x.f0, .int .i64 x.f1, .string x.f2]) (t := 24) ?hr ?_; (case hd => rfl); (case hg => rfl); (case hr => first | (go_simp; done) | (go_simp; rfl)); intro g3 hg w3 hbox hb; have HX3 := Aside0.mk hbox; have HB3 := Aside0.mk hb; have hc30 : w3.cell? ⟨g3, 0, none⟩ = some (.int .u8 x.f0) := (blk_cell hbox 0).trans rfl; have hc31 : w3.cell? ⟨g3, 1, none⟩ = some (.int .i64 x.f1) := (blk_cell hbox 1).trans rfl; have hc32 : w3.cell? ⟨g3, 2, none⟩ = some (.string x.f2) := (blk_cell hbox 2).trans rfl; have hA3 := blk_below HA.out.blk hb; have hc33 : w3.cell? ⟨g, 0, none⟩ = some (.string s.name) := (blk_cell hA3 0).trans rfl; have hc34 : w3.cell? ⟨g, 1, none⟩ = some (.bool true) := pw_cell_below hb hcz1; clear hg hbox hb hA3))
  have HR1 := Aside0.mk (C_one k24 (x := x) (k24_mk _ x) (blk_alloc (blk_new w3 (.cells #[.int .u8 x.f0, .int .i64 x.f1, .string x.f2] 24)) (.cells #[.bool false] 4)))
  have HR2 := Aside0.mk (show Kd.bool.C ((w3.alloc (.cells #[.int .u8 x.f0, .int .i64 x.f1, .string x.f2] 24)).alloc (.cells #[.bool false] 4)) (some ⟨w3.heap.size + 1, 0, none⟩) 1 [false] from
    C_one (e := 4) (cs := [.bool false]) Kd.bool rfl (by
      have h := blk_new (w3.alloc (.cells #[.int .u8 x.f0, .int .i64 x.f1, .string x.f2] 24)) (.cells #[.bool false] 4)
      have e : (w3.alloc (.cells #[.int .u8 x.f0, .int .i64 x.f1, .string x.f2] 24)).heap.size = w3.heap.size + 1 := by simp
      rw [e] at h
      exact h))
  refine (record_key1 x _ _ 1 1 _ HR1.out HR2.out HX.out (by simpa using H0.out)).mono ?_
  rintro e w5 ⟨v5, rfl, hR, hb⟩
  have HB5 := Aside0.mk (below_step (below_alloc (below_alloc HB3.out _) _) hb)
  have HA5 := Aside0.mk (HA.out.below HB5.out)
  have hc59 : w5.cell? ⟨g, 9, none⟩ = some (.map (some m)) := (blk_cell HA5.out.blk 9).trans rfl
  obtain ⟨A5, c5, e5, _, hC⟩ := Kd.R_reads hR
  subst e5
  have hcv : (convert 39 9 (.slice A5 (keyV x).length c5)).run Tryd.prog w5.drew = .ok (.string (kstr x)) w5.drew := Kd.C_string (w := w5.drew) Tryd.underlying39 Tryd.underlying5 Tryd.underlying9 hC
  have hks : (kstr x).size ≤ maxLen := by unfold kstr; rw [strOfNums_size]; have := hC.2.1; unfold maxLen; omega
  have hkey := WideMaps.keyOf_string_mk Tryd.underlying9 hks
  have hz : ∀ W : World, (zeroValue 3).run Tryd.prog W = .ok (.int .i64 0) W := fun W => by kernel_rfl
  have hm5 : w5.drew.ownsMap Tryd.prog 9 accR m s.seen.length D := HA5.out.map
  obtain ⟨cnt, hlk, hat, hwc⟩ := hm5.lookup_int string_k Tryd.underlying29 Tryd.underlying3 (hz _) hkey
  rw [HA5.out.seen.2] at hat
  have hcnt : ((s.seen.count (kstr x).data.toList : Nat) : Int) = cnt := by injection hat with hat; injection hat
  have hcl : s.seen.count (kstr x).data.toList ≤ s.seen.length := List.count_le_length
  have hw64 : IntKind.i64.wrap (cnt + 1) = cnt + 1 := IntWalk.i64_in _ (by have := HL.out; omega)
  obtain ⟨w6, hup, hown6, hg6⟩ := hm5.update string_k Tryd.underlying29 (by have := HL.out; unfold maxLen; omega) (val := .int .i64 (cnt + 1)) hkey (plainElem_int Tryd.underlying3 (by have := HL.out; exact WalkArith.wf_i64 (by omega)))
  have hne : m ≠ g := own_map_ne HA5.out.map HA5.out.blk
  have hb6 : w6.heap[g]? = some (.cells (accCells s lv m) 31 (0, 0)) := blk_grown (w := w5.drew) HA5.out.blk hg6 (fun e => hne (by injection e with e; exact e.symm))
  have hc69 : w6.cell? ⟨g, 9, none⟩ = some (.map (some m)) := (blk_cell hb6 9).trans rfl
  have hC6 : Kd.C (Kd.int .u8) w6 A5 (keyV x).length (keyV x) := by
    obtain ⟨_, _, e6, _, h6⟩ := Kd.R_reads (Kd.R_grown (w := w5.drew) (Kd.R_mono (ok' := fun k => k ≠ m) (Kd.R_bound hR) (fun k hk e => by
      obtain ⟨_, _, _, q, _, cells, hc⟩ := hk
      exact own_map_ne HA5.out.map hc e.symm)) hg6 (fun k hk e => hk (by injection e)))
    injection e6 with e6 _ _
    rw [e6]; exact h6
  have hseen := seen_put HA5.out.seen (kstr x).data.toList
  rw [hcnt] at hseen
  have hcv6 : ∀ n, (convert 39 9 (.slice A5 (keyV x).length c5)).run Tryd.prog (w6.drewN n) = .ok (.string (kstr x)) (w6.drewN n) := fun n => Kd.C_string (w := w6.drewN n) Tryd.underlying39 Tryd.underlying5 Tryd.underlying9 hC6
  have hlk6 : ∀ n, (Instr.lookup 29 (.map (some m)) (.string (kstr x)) false).run Tryd.prog (w6.drewN n) = .ok (.int .i64 (cnt + 1)) (w6.drewN n) := fun n => by
    have hm6 : (w6.drewN n).ownsMap Tryd.prog 9 accR m (s.seen.length + 1) (D.put (.string (kstr x).data.toList) (.lit (.int .i64 (cnt + 1)))) := hown6
    obtain ⟨c6, h6, hat6, _⟩ := hm6.lookup_int string_k Tryd.underlying29 Tryd.underlying3 (hz _) hkey
    rw [hseen.2] at hat6
    rw [h6]
    have e6 : cnt + 1 = c6 := by
      injection hat6 with hat6
      injection hat6 with _ hat6
      rw [← hat6, ← hcnt, List.count_cons_self]
      simp
    rw [e6]
  have HO6 := Aside0.mk hown6
  have HS6 := Aside0.mk hseen
  have HB6 := Aside0.mk hb6
  have HT6 := Aside0.mk ((Turns.of_below HB5.out (fun k => k = m)).drew.of_grown hg6 (fun k e => .inl (by injection e with e; exact e.symm)))
  have HR6 := Aside0.mk (Kd.R_grown (w := w5.drew) (row_map_ne HA5.out.map HA5.out.row) hg6 (fun k hk e => hk.2 (by injection e)))
  have HCN := Aside0.mk hcnt
  have hcvS : (convert 39 9 (.slice A5 (keyV x).length c5)).run Tryd.prog w6 = .ok (.string (kstr x)) w6 := Kd.C_string (w := w6) Tryd.underlying39 Tryd.underlying5 Tryd.underlying9 hC6
  clear hR hb hC hown6 hg6 hcnt hm5 hkey hks hat hwc hz hcl hseen hne hb6 hC6
  go_wp2
  go_region_held3 (fun w' => w'.cell? ⟨g, 9, none⟩ = some (.map (some m)) ∧ (convert 39 9 (.slice A5 (keyV x).length c5)).run Tryd.prog w' = .ok (.string (kstr x)) w') (first | go_keep | trivial) (first | (trace_state; fail))
  go_wp2
  go_quiet (fail)
  go_wp2
  go_ret
  exact ⟨_, by rw [HCN.out, show (cnt == 0) = (cnt + 1 == 1) by rw [Bool.eq_iff_iff]; simp; omega]; first | done | rfl, ⟨HB6.out, HA.out.pg, Kd.R_mono HR6.out (fun _ h => h.1), HA.out.pm, HO6.out, HS6.out, HA.out.hi0, HA.out.lo0, HA.out.lo1⟩, HT6.out.drewN nq⟩

set_option maxHeartbeats 8000000 in
set_option maxRecDepth 100000 in
theorem agg_counts_star (g m B : Nat) (P : Nat → Prop) (s : AccS) (lv : Value) (D : DataW Unit) (x : S24) (w : World) (ha : IsAcc w B P g s lv m D) (hn : (s.name.toList == [99, 111, 117, 110, 116, 42]) = true) :
    Calls Tryd.prog 28 #[.pointer (some ⟨g, 0, none⟩), .agg #[.int .u8 x.f0, .int .i64 x.f1, .string x.f2]] w fun e w' => e = .returned (.bool true) ∧ Below w.heap.size w w' := by
  have hcz : ∀ o, (w.alloc o).cell? ⟨g, 0, none⟩ = some (.string s.name) := fun o => (blk_cell (blk_alloc ha.blk o) 0).trans rfl
  clear ha
  have hu1 := Tryd.underlying24
  go_enter Tryd.func28, Tryd.ntmps28
  go_wp2
  go_ret
  exact ⟨rfl, below_alloc (Below.refl _ _) _⟩

set_option maxHeartbeats 8000000 in
set_option maxRecDepth 100000 in
theorem agg_counts_null (g m B : Nat) (P : Nat → Prop) (s : AccS) (lv : Value) (D : DataW Unit) (x : S24) (w : World) (ha : IsAcc w B P g s lv m D) (hn : (s.name.toList == [99, 111, 117, 110, 116, 42]) = false) (h0 : (x.f0 == 0) = true) :
    Calls Tryd.prog 28 #[.pointer (some ⟨g, 0, none⟩), .agg #[.int .u8 x.f0, .int .i64 x.f1, .string x.f2]] w fun e w' => e = .returned (.bool false) ∧ Below w.heap.size w w' := by
  have hcz : ∀ o, (w.alloc o).cell? ⟨g, 0, none⟩ = some (.string s.name) := fun o => (blk_cell (blk_alloc ha.blk o) 0).trans rfl
  clear ha
  have hu1 := Tryd.underlying24
  go_enter Tryd.func28, Tryd.ntmps28
  go_wp2
  go_ret
  exact ⟨rfl, below_alloc (Below.refl _ _) _⟩

set_option maxHeartbeats 8000000 in
set_option maxRecDepth 100000 in
theorem agg_counts_all (g m B : Nat) (P : Nat → Prop) (s : AccS) (lv : Value) (D : DataW Unit) (x : S24) (w : World) (ha : IsAcc w B P g s lv m D) (hn : (s.name.toList == [99, 111, 117, 110, 116, 42]) = false) (h0 : (x.f0 == 0) = false) (hd : s.dist = false) :
    Calls Tryd.prog 28 #[.pointer (some ⟨g, 0, none⟩), .agg #[.int .u8 x.f0, .int .i64 x.f1, .string x.f2]] w fun e w' => e = .returned (.bool true) ∧ Below w.heap.size w w' := by
  have hcz : ∀ o, (w.alloc o).cell? ⟨g, 0, none⟩ = some (.string s.name) := fun o => (blk_cell (blk_alloc ha.blk o) 0).trans rfl
  have hcy : ∀ o, (w.alloc o).cell? ⟨g, 1, none⟩ = some (.bool false) := fun o => by rw [← hd]; exact (blk_cell (blk_alloc ha.blk o) 1).trans rfl
  clear ha hd
  have hu1 := Tryd.underlying24
  go_enter Tryd.func28, Tryd.ntmps28
  go_wp2
  go_ret
  exact ⟨rfl, below_alloc (Below.refl _ _) _⟩

/-- does a value count? -/
def cntB (s : AccS) (x : S24) : Bool :=
  if (s.name.toList == [99, 111, 117, 110, 116, 42]) = true then true else if (x.f0 == 0) = true then false else if s.dist = true then (((s.seen.count (kstr x).data.toList : Nat) : Int) == 0) else true
def cntS (s : AccS) (x : S24) : AccS :=
  if (s.name.toList == [99, 111, 117, 110, 116, 42]) = true then s else if (x.f0 == 0) = true then s else if s.dist = true then { s with seen := (kstr x).data.toList :: s.seen } else s

theorem agg_counts (g m B : Nat) (P : Nat → Prop) (s : AccS) (lv : Value) (D : DataW Unit) (x : S24) (w : World) (ha : IsAcc w B P g s lv m D) (hx : rightV x = true) (hl : s.seen.length < 9223372036854775807) :
    Calls Tryd.prog 28 #[.pointer (some ⟨g, 0, none⟩), .agg #[.int .u8 x.f0, .int .i64 x.f1, .string x.f2]] w fun e w' => ∃ D', e = .returned (.bool (cntB s x)) ∧ IsAcc w' B P g (cntS s x) lv m D' ∧ Turns w w' (fun k => k = m) := by
  unfold cntB cntS
  by_cases h1 : (s.name.toList == [99, 111, 117, 110, 116, 42]) = true
  · rw [if_pos h1, if_pos h1]
    refine (agg_counts_star g m B P s lv D x w ha h1).mono ?_
    rintro e w' ⟨rfl, hb⟩
    exact ⟨D, rfl, ha.below hb, Turns.of_below hb _⟩
  · have h1' := Bool.eq_false_iff.mpr h1
    rw [if_neg h1, if_neg h1]
    by_cases h2 : (x.f0 == 0) = true
    · rw [if_pos h2, if_pos h2]
      refine (agg_counts_null g m B P s lv D x w ha h1' h2).mono ?_
      rintro e w' ⟨rfl, hb⟩
      exact ⟨D, rfl, ha.below hb, Turns.of_below hb _⟩
    · have h2' := Bool.eq_false_iff.mpr h2
      rw [if_neg h2, if_neg h2]
      by_cases h3 : s.dist = true
      · rw [if_pos h3, if_pos h3]
        exact agg_counts_seen g m B P s lv D x w ha h1' h2' h3 hx hl
      · rw [if_neg h3, if_neg h3]
        refine (agg_counts_all g m B P s lv D x w ha h1' h2' (Bool.eq_false_iff.mpr h3)).mono ?_
        rintro e w' ⟨rfl, hb⟩
        exact ⟨D, rfl, ha.below hb, Turns.of_below hb _⟩
end Go.Proofs.YtjankdoaobklgaaDoor.Q
end
section
namespace Go.Proofs.YtjankdoaobklgaaDoor.Q
open Go.RowKit Go.Proofs.YtjankdoaobklgaaDoorW.PrintWords Go.Proofs.YtjankdoaobklgaaDoorW.PrintLast

/-- A number added to a sum of two halves: the lower, the upper one. -/
def addLo (lo x : Int) : Int := (lo + IntKind.u64.wrap x) % 18446744073709551616
def addHi (hi lo x : Int) : Int := (hi + IntKind.u64.wrap (x / 9223372036854775808) + (lo + IntKind.u64.wrap x) / 18446744073709551616) % 18446744073709551616

theorem u64_range (x : Int) : 0 ≤ IntKind.u64.wrap x ∧ IntKind.u64.wrap x < 18446744073709551616 := by
  show 0 ≤ x % 18446744073709551616 ∧ x % 18446744073709551616 < 18446744073709551616
  omega

set_option maxHeartbeats 8000000 in
set_option maxRecDepth 100000 in
theorem agg_add (g m : Nat) (s : AccS) (lv : Value) (x : Int) (w : World) (hb : w.heap[g]? = some (.cells (accCells s lv m) 31 (0, 0)))
    (h1 : 0 ≤ s.hi) (h2 : 0 ≤ s.lo) (h3 : s.lo < 18446744073709551616) :
    Calls Tryd.prog 32 #[.pointer (some ⟨g, 0, none⟩), .int .i64 x] w fun e w' => e = .returned (.tuple #[]) ∧
      w' = (w.setCell ⟨g, 3, none⟩ (.int .u64 (addHi s.hi s.lo x))).setCell ⟨g, 4, none⟩ (.int .u64 (addLo s.lo x)) := by
  have hcz0 : w.cell? ⟨g, 3, none⟩ = some (.int .u64 s.hi) := (blk_cell hb 3).trans rfl
  have hcz1 : w.cell? ⟨g, 4, none⟩ = some (.int .u64 s.lo) := (blk_cell hb 4).trans rfl
  have hfz0 := blk_frozen hb 3
  have hfz1 := blk_frozen hb 4
  obtain ⟨hx, hx'⟩ := u64_range x
  have hy := (u64_range (x / 9223372036854775808)).1
  have ha := add64 s.lo (IntKind.u64.wrap x) 0 h2 hx (by omega) (by omega)
  have hb := add64 s.hi (IntKind.u64.wrap (x / 9223372036854775808)) ((s.lo + IntKind.u64.wrap x) / 18446744073709551616) h1 hy (by omega) (by omega)
  rw [Int.add_zero] at ha
  clear h1 h2 h3 hx hx' hy
  unfold addLo addHi
  generalize (s.lo + IntKind.u64.wrap x) % 18446744073709551616 = L at *
  generalize (s.lo + IntKind.u64.wrap x) / 18446744073709551616 = C at *
  generalize (s.hi + IntKind.u64.wrap (x / 9223372036854775808) + C) % 18446744073709551616 = Hh at *
  go_enter Tryd.func32, Tryd.ntmps32
  go_wp2
  go_end0
  exact ⟨rfl, rfl⟩
end Go.Proofs.YtjankdoaobklgaaDoor.Q
end
section
namespace Go.Proofs.YtjankdoaobklgaaDoor.Q
open Go.RowKit Go.Proofs.YtjankdoaobklgaaDoorW.PrintWords Go.Proofs.YtjankdoaobklgaaDoorW.PrintLast

section
variable {w : World} {g t : Nat} {c0 c1 c2 c3 c4 c5 c6 c7 c8 c9 : Value}
theorem blk_ten (h : w.heap[g]? = some (.cells #[c0, c1, c2, c3, c4, c5, c6, c7, c8, c9] t (0, 0))) (u0 u1 u2 u3 u4 u5 u6 u7 u8 u9 : Value) : ((((((((((w.setCell ⟨g, 0, none⟩ u0).setCell ⟨g, 1, none⟩ u1).setCell ⟨g, 2, none⟩ u2).setCell ⟨g, 3, none⟩ u3).setCell ⟨g, 4, none⟩ u4).setCell ⟨g, 5, none⟩ u5).setCell ⟨g, 6, none⟩ u6).setCell ⟨g, 7, none⟩ u7).setCell ⟨g, 8, none⟩ u8).setCell ⟨g, 9, none⟩ u9).heap[g]? = some (.cells #[u0, u1, u2, u3, u4, u5, u6, u7, u8, u9] t (0, 0)) := by
  have h := blk_put (cs' := #[u0, c1, c2, c3, c4, c5, c6, c7, c8, c9]) h 0 u0 rfl
  have h := blk_put (cs' := #[u0, u1, c2, c3, c4, c5, c6, c7, c8, c9]) h 1 u1 rfl
  have h := blk_put (cs' := #[u0, u1, u2, c3, c4, c5, c6, c7, c8, c9]) h 2 u2 rfl
  have h := blk_put (cs' := #[u0, u1, u2, u3, c4, c5, c6, c7, c8, c9]) h 3 u3 rfl
  have h := blk_put (cs' := #[u0, u1, u2, u3, u4, c5, c6, c7, c8, c9]) h 4 u4 rfl
  have h := blk_put (cs' := #[u0, u1, u2, u3, u4, u5, c6, c7, c8, c9]) h 5 u5 rfl
  have h := blk_put (cs' := #[u0, u1, u2, u3, u4, u5, u6, c7, c8, c9]) h 6 u6 rfl
  have h := blk_put (cs' := #[u0, u1, u2, u3, u4, u5, u6, u7, c8, c9]) h 7 u7 rfl
  have h := blk_put (cs' := #[u0, u1, u2, u3, u4, u5, u6, u7, u8, c9]) h 8 u8 rfl
  have h := blk_put (cs' := #[u0, u1, u2, u3, u4, u5, u6, u7, u8, u9]) h 9 u9 rfl
  exact h
theorem far_ten {k : Nat} {o : Obj} (hk : k ≠ g) (h : w.heap[k]? = some o) (u0 u1 u2 u3 u4 u5 u6 u7 u8 u9 : Value) : ((((((((((w.setCell ⟨g, 0, none⟩ u0).setCell ⟨g, 1, none⟩ u1).setCell ⟨g, 2, none⟩ u2).setCell ⟨g, 3, none⟩ u3).setCell ⟨g, 4, none⟩ u4).setCell ⟨g, 5, none⟩ u5).setCell ⟨g, 6, none⟩ u6).setCell ⟨g, 7, none⟩ u7).setCell ⟨g, 8, none⟩ u8).setCell ⟨g, 9, none⟩ u9).heap[k]? = some o := by
  have h := (Deep.blk_setCell_other w ⟨g, 0, none⟩ u0 k hk).trans h
  have h := (Deep.blk_setCell_other (w.setCell ⟨g, 0, none⟩ u0) ⟨g, 1, none⟩ u1 k hk).trans h
  have h := (Deep.blk_setCell_other ((w.setCell ⟨g, 0, none⟩ u0).setCell ⟨g, 1, none⟩ u1) ⟨g, 2, none⟩ u2 k hk).trans h
  have h := (Deep.blk_setCell_other (((w.setCell ⟨g, 0, none⟩ u0).setCell ⟨g, 1, none⟩ u1).setCell ⟨g, 2, none⟩ u2) ⟨g, 3, none⟩ u3 k hk).trans h
  have h := (Deep.blk_setCell_other ((((w.setCell ⟨g, 0, none⟩ u0).setCell ⟨g, 1, none⟩ u1).setCell ⟨g, 2, none⟩ u2).setCell ⟨g, 3, none⟩ u3) ⟨g, 4, none⟩ u4 k hk).trans h
  have h := (Deep.blk_setCell_other (((((w.setCell ⟨g, 0, none⟩ u0).setCell ⟨g, 1, none⟩ u1).setCell ⟨g, 2, none⟩ u2).setCell ⟨g, 3, none⟩ u3).setCell ⟨g, 4, none⟩ u4) ⟨g, 5, none⟩ u5 k hk).trans h
  have h := (Deep.blk_setCell_other ((((((w.setCell ⟨g, 0, none⟩ u0).setCell ⟨g, 1, none⟩ u1).setCell ⟨g, 2, none⟩ u2).setCell ⟨g, 3, none⟩ u3).setCell ⟨g, 4, none⟩ u4).setCell ⟨g, 5, none⟩ u5) ⟨g, 6, none⟩ u6 k hk).trans h
  have h := (Deep.blk_setCell_other (((((((w.setCell ⟨g, 0, none⟩ u0).setCell ⟨g, 1, none⟩ u1).setCell ⟨g, 2, none⟩ u2).setCell ⟨g, 3, none⟩ u3).setCell ⟨g, 4, none⟩ u4).setCell ⟨g, 5, none⟩ u5).setCell ⟨g, 6, none⟩ u6) ⟨g, 7, none⟩ u7 k hk).trans h
  have h := (Deep.blk_setCell_other ((((((((w.setCell ⟨g, 0, none⟩ u0).setCell ⟨g, 1, none⟩ u1).setCell ⟨g, 2, none⟩ u2).setCell ⟨g, 3, none⟩ u3).setCell ⟨g, 4, none⟩ u4).setCell ⟨g, 5, none⟩ u5).setCell ⟨g, 6, none⟩ u6).setCell ⟨g, 7, none⟩ u7) ⟨g, 8, none⟩ u8 k hk).trans h
  have h := (Deep.blk_setCell_other (((((((((w.setCell ⟨g, 0, none⟩ u0).setCell ⟨g, 1, none⟩ u1).setCell ⟨g, 2, none⟩ u2).setCell ⟨g, 3, none⟩ u3).setCell ⟨g, 4, none⟩ u4).setCell ⟨g, 5, none⟩ u5).setCell ⟨g, 6, none⟩ u6).setCell ⟨g, 7, none⟩ u7).setCell ⟨g, 8, none⟩ u8) ⟨g, 9, none⟩ u9 k hk).trans h
  exact h
theorem turns_ten {w0 : World} {S : Nat → Prop} (hg : S g) (h : Turns w0 w S) (u0 u1 u2 u3 u4 u5 u6 u7 u8 u9 : Value) : Turns w0 ((((((((((w.setCell ⟨g, 0, none⟩ u0).setCell ⟨g, 1, none⟩ u1).setCell ⟨g, 2, none⟩ u2).setCell ⟨g, 3, none⟩ u3).setCell ⟨g, 4, none⟩ u4).setCell ⟨g, 5, none⟩ u5).setCell ⟨g, 6, none⟩ u6).setCell ⟨g, 7, none⟩ u7).setCell ⟨g, 8, none⟩ u8).setCell ⟨g, 9, none⟩ u9) S :=
  ((((((((((h.setCell (p := ⟨g, 0, none⟩) (.inl hg) u0).setCell (p := ⟨g, 1, none⟩) (.inl hg) u1).setCell (p := ⟨g, 2, none⟩) (.inl hg) u2).setCell (p := ⟨g, 3, none⟩) (.inl hg) u3).setCell (p := ⟨g, 4, none⟩) (.inl hg) u4).setCell (p := ⟨g, 5, none⟩) (.inl hg) u5).setCell (p := ⟨g, 6, none⟩) (.inl hg) u6).setCell (p := ⟨g, 7, none⟩) (.inl hg) u7).setCell (p := ⟨g, 8, none⟩) (.inl hg) u8).setCell (p := ⟨g, 9, none⟩) (.inl hg) u9)
end

set_option maxHeartbeats 8000000 in
set_option maxRecDepth 100000 in
theorem agg_Reset (g : Nat) (nm : ByteArray) (d : Bool) (c2 c3 c4 c5 c6 c7 c8 c9 : Value) (w : World) (hb : w.heap[g]? = some (.cells #[.string nm, .bool d, c2, c3, c4, c5, c6, c7, c8, c9] 31 (0, 0))) (hn : (nm.toList == []) = false) :
    Calls Tryd.prog 9 #[.pointer (some ⟨g, 0, none⟩)] w fun e w' => e = .returned (.tuple #[]) ∧ w'.heap[g]? = some (.cells #[.string nm, .bool d, .int .i64 0, .int .u64 0, .int .u64 0, .int .u8 0, .int .i64 0, .string ⟨#[]⟩, .slice none 0 0, .map (some w.heap.size)] 31 (0, 0)) ∧ w'.heap[w.heap.size]? = some (.map #[] 0) ∧ Turns w w' (fun k => k = g) := by
  have hcz0 : w.cell? ⟨g, 0, none⟩ = some (.string nm) := (blk_cell hb 0).trans rfl
  have hcz1 : w.cell? ⟨g, 1, none⟩ = some (.bool d) := (blk_cell hb 1).trans rfl
  have hcz2 : w.cell? ⟨g, 2, none⟩ = some c2 := (blk_cell hb 2).trans rfl
  have hcz3 : w.cell? ⟨g, 3, none⟩ = some c3 := (blk_cell hb 3).trans rfl
  have hcz4 : w.cell? ⟨g, 4, none⟩ = some c4 := (blk_cell hb 4).trans rfl
  have hcz5 : w.cell? ⟨g, 5, none⟩ = some c5 := (blk_cell hb 5).trans rfl
  have hcz6 : w.cell? ⟨g, 6, none⟩ = some c6 := (blk_cell hb 6).trans rfl
  have hcz7 : w.cell? ⟨g, 7, none⟩ = some c7 := (blk_cell hb 7).trans rfl
  have hcz8 : w.cell? ⟨g, 8, none⟩ = some c8 := (blk_cell hb 8).trans rfl
  have hcz9 : w.cell? ⟨g, 9, none⟩ = some c9 := (blk_cell hb 9).trans rfl
  have hfz0 := blk_frozen hb 0
  have hfz1 := blk_frozen hb 1
  have hfz2 := blk_frozen hb 2
  have hfz3 := blk_frozen hb 3
  have hfz4 := blk_frozen hb 4
  have hfz5 := blk_frozen hb 5
  have hfz6 := blk_frozen hb 6
  have hfz7 := blk_frozen hb 7
  have hfz8 := blk_frozen hb 8
  have hfz9 := blk_frozen hb 9
  have hd0 : ∀ o : Obj, (w.alloc o).cell? ⟨g, 0, none⟩ = some (.string nm) := fun o => (blk_cell (blk_alloc hb o) 0).trans rfl
  have he0 := fun o : Obj => blk_frozen (blk_alloc hb o) 0
  have hd1 : ∀ o : Obj, (w.alloc o).cell? ⟨g, 1, none⟩ = some (.bool d) := fun o => (blk_cell (blk_alloc hb o) 1).trans rfl
  have he1 := fun o : Obj => blk_frozen (blk_alloc hb o) 1
  have hd2 : ∀ o : Obj, (w.alloc o).cell? ⟨g, 2, none⟩ = some c2 := fun o => (blk_cell (blk_alloc hb o) 2).trans rfl
  have he2 := fun o : Obj => blk_frozen (blk_alloc hb o) 2
  have hd3 : ∀ o : Obj, (w.alloc o).cell? ⟨g, 3, none⟩ = some c3 := fun o => (blk_cell (blk_alloc hb o) 3).trans rfl
  have he3 := fun o : Obj => blk_frozen (blk_alloc hb o) 3
  have hd4 : ∀ o : Obj, (w.alloc o).cell? ⟨g, 4, none⟩ = some c4 := fun o => (blk_cell (blk_alloc hb o) 4).trans rfl
  have he4 := fun o : Obj => blk_frozen (blk_alloc hb o) 4
  have hd5 : ∀ o : Obj, (w.alloc o).cell? ⟨g, 5, none⟩ = some c5 := fun o => (blk_cell (blk_alloc hb o) 5).trans rfl
  have he5 := fun o : Obj => blk_frozen (blk_alloc hb o) 5
  have hd6 : ∀ o : Obj, (w.alloc o).cell? ⟨g, 6, none⟩ = some c6 := fun o => (blk_cell (blk_alloc hb o) 6).trans rfl
  have he6 := fun o : Obj => blk_frozen (blk_alloc hb o) 6
  have hd7 : ∀ o : Obj, (w.alloc o).cell? ⟨g, 7, none⟩ = some c7 := fun o => (blk_cell (blk_alloc hb o) 7).trans rfl
  have he7 := fun o : Obj => blk_frozen (blk_alloc hb o) 7
  have hd8 : ∀ o : Obj, (w.alloc o).cell? ⟨g, 8, none⟩ = some c8 := fun o => (blk_cell (blk_alloc hb o) 8).trans rfl
  have he8 := fun o : Obj => blk_frozen (blk_alloc hb o) 8
  have hd9 : ∀ o : Obj, (w.alloc o).cell? ⟨g, 9, none⟩ = some c9 := fun o => (blk_cell (blk_alloc hb o) 9).trans rfl
  have he9 := fun o : Obj => blk_frozen (blk_alloc hb o) 9
  have hmm := @run_makeMap Tryd.prog
  have HB := Aside0.mk hb
  clear hb
  go_enter Tryd.func9, Tryd.ntmps9
  go_wp2
  go_region
  go_end0
  have h0 := blk_alloc HB.out (.map #[] 0)
  have hne : w.heap.size ≠ g := fun e => by have := blk_lt HB.out; omega
  have hnew := blk_new w (.map #[] 0)
  have T0 := (Turns.refl w (fun k => k = g)).alloc (.map #[] 0)
  exact ⟨rfl, blk_drew (blk_ten h0 _ _ _ _ _ _ _ _ _ _), blk_drew (far_ten hne hnew _ _ _ _ _ _ _ _ _ _), (turns_ten (S := fun k => k = g) (g := g) (w := w.alloc (.map #[] 0)) rfl T0 _ _ _ _ _ _ _ _ _ _).drew⟩
end Go.Proofs.YtjankdoaobklgaaDoor.Q
end
section
namespace Go.Proofs.YtjankdoaobklgaaDoor.Q
open Go.RowKit Go.Proofs.YtjankdoaobklgaaDoorW.PrintWords Go.Proofs.YtjankdoaobklgaaDoorW.PrintLast Go.Proofs.YtjankdoaobklgaaDoorW.PrintMore
attribute [local go_sem] max2_int min2_int max_two min_two max_three min_three max_four min_four   -- for this text's walks alone
set_option linter.unusedVariables false
set_option linter.unusedSimpArgs false

/-! ### stringslite_HasPrefix: function 60 -/
def stringslite_HasPrefix.f (a0 : ByteArray) (a1 : ByteArray) : Option (Bool) := if (a0.size : Int) ≥ (a1.size : Int) then (if 0 ≤ (a1.size : Int) then (if (a1.size : Int) ≤ (a0.size : Int) then (some ((a0.extract 0 ((a1.size : Int) : Int).toNat).toList == a1.toList)) else (none)) else (none)) else (some false)
set_option maxHeartbeats 8000000 in
set_option maxRecDepth 100000 in
theorem stringslite_HasPrefix.calls (a0 : ByteArray) (a1 : ByteArray) (r : Bool) (w : World) (h : stringslite_HasPrefix.f a0 a1 = some r) :
    Calls Tryd.prog 60 #[.string a0, .string a1] w fun e w' => e = .returned (.bool r) ∧ Drawn0 w w' := by
  have H : (if (a0.size : Int) ≥ (a1.size : Int) then (if 0 ≤ (a1.size : Int) then (if (a1.size : Int) ≤ (a0.size : Int) then (some ((a0.extract 0 ((a1.size : Int) : Int).toNat).toList == a1.toList)) else (none)) else (none)) else (some false)) = some r := h
  clear h
  by_cases c3 : (a0.size : Int) ≥ (a1.size : Int)
  · rw [if_pos c3] at H
    have c3b0 : decide ((a1.size : Int) ≤ (a0.size : Int)) = true := decide_eq_true c3
    have c3b1 : decide (a1.size ≤ a0.size) = true := decide_eq_true (Int.ofNat_le.mp c3)
    clear c3
    by_cases c4 : 0 ≤ (a1.size : Int)
    · rw [if_pos c4] at H
      have c4b0 := eq_true c4
      have c4b1 : decide (0 ≤ (a1.size : Int)) = true := decide_eq_true c4
      clear c4
      by_cases c5 : (a1.size : Int) ≤ (a0.size : Int)
      · rw [if_pos c5] at H
        have c5b0 := eq_true c5
        have c5b1 : decide ((a1.size : Int) ≤ (a0.size : Int)) = true := decide_eq_true c5
        clear c5
        obtain rfl := Option.some.inj H
        simp only [Option.some.injEq, Prod.mk.injEq] at H
        obtain ⟨rfl⟩ := H
        go_enter Tryd.func60, Tryd.ntmps60
        go_wp2
        go_ret
        exact ⟨by first | rfl | (simp; done) | (simp [*]; done), by repeat (first | exact Drawn0.refl _ | apply Drawn0.step)⟩
      · rw [if_neg c5] at H
        exact absurd H (by simp)
    · rw [if_neg c4] at H
      exact absurd H (by simp)
  · rw [if_neg c3] at H
    have c3b0 : decide ((a1.size : Int) ≤ (a0.size : Int)) = false := decide_eq_false c3
    have c3b1 : decide (a1.size ≤ a0.size) = false := decide_eq_false (fun h => c3 (Int.ofNat_le.mpr h))
    clear c3
    obtain rfl := Option.some.inj H
    simp only [Option.some.injEq, Prod.mk.injEq] at H
    obtain ⟨rfl⟩ := H
    go_enter Tryd.func60, Tryd.ntmps60
    go_wp2
    go_ret
    exact ⟨by first | rfl | (simp; done) | (simp [*]; done), by repeat (first | exact Drawn0.refl _ | apply Drawn0.step)⟩

end Go.Proofs.YtjankdoaobklgaaDoor.Q
end
section
namespace Go.Proofs.YtjankdoaobklgaaDoor.Q
open Go.RowKit Go.Proofs.YtjankdoaobklgaaDoorW.PrintWords Go.Proofs.YtjankdoaobklgaaDoorW.PrintLast Go.Proofs.YtjankdoaobklgaaDoorW.PrintMore
attribute [local go_sem] max2_int min2_int max_two min_two max_three min_three max_four min_four   -- for this text's walks alone
set_option linter.unusedVariables false
set_option linter.unusedSimpArgs false

/-! ### strings_HasPrefix: function 40 -/
def strings_HasPrefix.f (a0 : ByteArray) (a1 : ByteArray) : Option (Bool) := (stringslite_HasPrefix.f a0 a1).bind fun t326 => (some t326)
set_option maxHeartbeats 8000000 in
set_option maxRecDepth 100000 in
theorem strings_HasPrefix.calls (a0 : ByteArray) (a1 : ByteArray) (r : Bool) (w : World) (h : strings_HasPrefix.f a0 a1 = some r) :
    Calls Tryd.prog 40 #[.string a0, .string a1] w fun e w' => e = .returned (.bool r) ∧ Drawn0 w w' := by
  have H : ((stringslite_HasPrefix.f a0 a1).bind fun t326 => (some t326)) = some r := h
  clear h
  replace H := Option.bind_eq_some_iff.mp H
  obtain ⟨t326, A30, H⟩ := H
  replace H : (some t326) = some r := H
  have A3 := Aside0.mk A30
  clear A30
  obtain rfl := Option.some.inj H
  simp only [Option.some.injEq, Prod.mk.injEq] at H
  obtain ⟨rfl⟩ := H
  go_enter Tryd.func40, Tryd.ntmps40
  go_wp2_with (first | ((with_reducible refine gate_callee (f := 60) rfl ?_); refine goesL_ (some 7) rfl rfl Tryd.func60 (by kernel_rfl) rfl #[.string a0, .string a1] rfl (by (try simp only [List.map_toArray, List.map_cons, List.map_nil]); first | done | rfl | (simp only [List.length_drop, List.length_take]; rfl)) ?_; (with_reducible refine (stringslite_HasPrefix.calls a0 a1 t326 _ A3.out).mono ?_); rintro e w' ⟨rfl, ⟨nd, rfl⟩⟩; refine ⟨_, rfl, ?_⟩))
  go_ret
  exact ⟨by first | rfl | (simp; done) | (simp [*]; done), by repeat (first | exact Drawn0.refl _ | apply Drawn0.step)⟩

end Go.Proofs.YtjankdoaobklgaaDoor.Q
end
