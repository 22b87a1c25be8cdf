import Derived.Test.YtjankdoaobklgaaDoorKN06
import Derived.RangeFuncBox
import Derived.Maps.AppendAt
section
namespace Go.Proofs.YtjankdoaobklgaaDoor.Q
open Go.RowKit Go.Shelf Go.Proofs.YtjankdoaobklgaaDoorW.PrintWords Go.Proofs.YtjankdoaobklgaaDoorW.PrintLast Go.Proofs.YtjankdoaobklgaaDoorW.PrintMore

attribute [local go_sem] Oper.semAt_some

theorem values_stops (F : Fence) (n : Nat) (h68 : F.fn 68) (hro : F.round = none) (hn : 1 ≤ n) (Bs n₀ : Nat) (A : Option Addr) (c : Nat) (xs : List S24) (w : World) (hC : Kd.C k24 w A xs.length xs) (hblk : ∀ ad, A = some ad → ad.block < n₀) (hBs : Bs < w.heap.size) (hn₀ : n₀ ≤ w.heap.size) (hc : w.cell? ⟨Bs, 0, none⟩ = some (.slice A xs.length c)) :
    SeqStopsK F n Tryd.prog 68 #[.pointer (some ⟨Bs, 0, none⟩)] encV (Below n₀) (fun ys => ys = xs) (fun pre => pre <+: xs) xs.length w := fun l J Jx W hW hJ _ hY h0 =>
  seq_values F n h68 hro hn l Bs n₀ A c xs w hC hblk W J Jx hJ hY (Nat.le_trans hn₀ hW.size) (hW.mono hn₀) ((hW.cell (p := ⟨Bs, 0, none⟩) hBs).trans hc) h0

def vlist (x : S24) : List Value := [.int .u8 x.f0, .int .i64 x.f1, .string x.f2]
/-- what has been collected -/
structure Coll (n₀ B2 : Nat) (w : World) (pre : List S24) (W : World) : Prop where
  out : ∃ v, W.heap[B2]? = some (.cells #[v] 28 (0, 0)) ∧ W.ownsRow n₀ 24 3 v pre.length (pre.flatMap vlist)
theorem Coll.own {n₀ B2 : Nat} {w : World} : Own (Coll n₀ B2 w) := by
  rintro s A B row ⟨v, hb, ho⟩ hg hr
  have ne : ∀ {k : Nat} {cs : Array Value} {t : TypeId}, A.heap[k]? = some (.cells cs t (0, 0)) → some k ≠ row := fun {k cs t} hk e => by
    obtain ⟨o, h1, h2⟩ := hr k e.symm
    rw [hk] at h1
    obtain rfl := Option.some.inj h1
    simp [Obj.isCells] at h2
  refine ⟨v, blk_grown hb hg (ne hb), ho.kept hg ?_⟩
  cases hv : v.ownBlock with
  | none => exact .inl rfl
  | some k =>
    obtain ⟨cells, hc⟩ := own_typed ho k hv
    exact .inr (ne hc)

set_option maxRecDepth 100000 in
set_option maxHeartbeats 4000000 in
theorem append_seq_in (F : Fence) (n : Nat) (h84 : F.fn 84) (h68 : F.fn 68) (hro : F.round = none) (hn : 3 ≤ n) (Bs : Nat) (A : Option Addr) (c : Nat) (xs : List S24) (w : World) (hC : Kd.C k24 w A xs.length xs) (hblk : ∀ ad, A = some ad → ad.block < w.heap.size) (hBs : Bs < w.heap.size) (hc : w.cell? ⟨Bs, 0, none⟩ = some (.slice A xs.length c)) (hl : xs.length ≤ 1000000) :
    CallsIn F n Tryd.prog 84 #[.slice none 0 0, .func (.func 68) #[] #[.pointer (some ⟨Bs, 0, none⟩)]] w fun e W' => ∃ v, e = .returned v ∧ W'.ownsRow w.heap.size 24 3 v xs.length (xs.flatMap vlist) ∧ Below w.heap.size w W' := by
  have h1 : 1 ≤ n := by omega
  have hu1 := Tryd.underlying24
  refine callsIn_of_wp_marks Tryd.func84 rfl h84 ?_ hro
  simp only [Tryd.ntmps84, List.size_toArray, List.length_cons, List.length_nil, Nat.reduceAdd, Nat.reduceSub, Array.replicate_succ, Array.replicate_zero, List.push_toArray, List.append_toArray, List.nil_append, List.cons_append]
  gi_wp2
  have hz2 : (w.alloc (.cells #[.slice none 0 0] 28)).heap[w.heap.size]? = some (.cells #[.slice none 0 0] 28 (0, 0)) := blk_new w _
  have hB0 : Below w.heap.size w (w.alloc (.cells #[.slice none 0 0] 28)) := (Below.refl _ w).alloc (Nat.le_refl _) _
  refine wpIn_rangeFunc_ownH hro h1 (gf := 68) (lb := #[.pointer (some ⟨Bs, 0, none⟩)]) rfl h68 (enters_of Tryd.func68 (by kernel_rfl) rfl)
    (values_stops F (n - 1) h68 hro (by omega) Bs w.heap.size A c xs _ (Kd.C_below hC hB0) hblk (by simp; omega) (by simp) ((hB0.cell (p := ⟨Bs, 0, none⟩) hBs).trans hc)) belowK_t (belowK_b (by simp)) (Below.refl _ _) (fun _ => rfl)
    (fun pre W => Coll w.heap.size w.heap.size w pre W ∧ Below w.heap.size w W)
    (fun _ _ _ => False)
    (OwnFrom.and (Coll.own.from _) (ownFrom_below (Nat.le_refl _) (by simp)))
    (fun _ _ _ _ _ hs _ _ => hs)
    ⟨⟨_, hz2, World.ownsRow_nil _ _ _ _⟩, hB0⟩
    (fun x a' W => ∃ Bx, w.heap.size < Bx ∧ W.heap[Bx]? = some (.cells (vlist x).toArray 24 (0, 0)) ∧ a' = { tmps := #[.slice none 0 0, .func (.func 68) #[] #[.pointer (some ⟨Bs, 0, none⟩)], .pointer (some ⟨w.heap.size, 0, none⟩), undef, .slice none 0 0, .pointer (some ⟨Bx, 0, none⟩), .func (.func 68) #[] #[.pointer (some ⟨Bs, 0, none⟩)], .agg #[.int .u8 x.f0, .int .i64 x.f1, .string x.f2], undef, undef, undef, undef, undef], defers := [] })
    ?ax ?assign ?body ?done ?stop
  case ax =>
    rintro x a' s W W' row ⟨Bx, h1, h2, h3⟩ hg hr
    refine ⟨Bx, h1, blk_grown h2 hg (fun e => ?_), h3⟩
    obtain ⟨_, o, h4, h5⟩ := hr Bx e.symm
    rw [h2] at h4
    obtain rfl := Option.some.inj h4
    simp [Obj.isCells] at h5
  case assign =>
    rintro l pre x W K ⟨⟨v, hb, ho⟩, hB⟩ hK
    have hlt := blk_lt hb
    gi_wp2
    exact hK _ _ ((KeepsOthers.alloc _ _).from _) ((Below.refl w.heap.size W).alloc (Nat.le_of_lt hlt) _) ⟨⟨v, blk_alloc hb _, ho.alloc _⟩, hB.alloc (Nat.le_of_lt hlt) _⟩ ⟨W.heap.size, hlt, blk_new W _, rfl⟩
  case body =>
    rintro l pre x a' W hl ⟨rr, hrr⟩ ⟨⟨v, hb, ho⟩, hB⟩ ⟨Bx, hBx, bX, rfl⟩ hlt
    have hlb := blk_lt hb
    have hc2 : ∀ o : Obj, (W.alloc o).cell? ⟨w.heap.size, 0, none⟩ = some v := fun o => (blk_cell (blk_alloc hb o) 0).trans rfl
    have hc2' : W.cell? ⟨w.heap.size, 0, none⟩ = some v := (blk_cell hb 0).trans rfl
    have hx0 : W.cell? ⟨Bx, 0, none⟩ = some (.int .u8 x.f0) := (blk_cell bX 0).trans rfl
    have hx1 : W.cell? ⟨Bx, 1, none⟩ = some (.int .i64 x.f1) := (blk_cell bX 1).trans rfl
    have hx2 : W.cell? ⟨Bx, 2, none⟩ = some (.string x.f2) := (blk_cell bX 2).trans rfl
    obtain ⟨i0, hi, hz0, hz1, hz2'⟩ := info_parts info24
    have HNW := Aside0.mk (show ∀ j u, (vlist x)[j]? = some u → (W.alloc (.cells #[.int .u8 x.f0, .int .i64 x.f1, .string x.f2] 24)).cell? ((⟨W.heap.size, 0, none⟩ : Addr).add j) = some u from by
      have h := World.news_of_block (cs := (vlist x).toArray) (t := 24) (fr := (0, 0)) (heap_alloc_new W (.cells (vlist x).toArray 24))
      intro j u hj
      exact h j u (by simpa using hj))
    have HONE := Aside0.mk (show ∀ u ∈ vlist x, u.oneCell' = true from by
      intro u hu
      simp [vlist] at hu
      rcases hu with rfl | rfl | rfl <;> rfl)
    have HZA := Aside0.mk (blk_alloc hb (.cells #[.int .u8 x.f0, .int .i64 x.f1, .string x.f2] 24))
    have HNE := Aside0.mk (own_ne ho hb (show 24 ≠ 28 by decide))
    have HO := Aside0.mk ho
    have HBe := Aside0.mk hB
    have HLt := Aside0.mk hlt
    have HLl := Aside0.mk hl
    have HZ := Aside0.mk hb
    have HBx := Aside0.mk hBx
    have hpl : pre.length < 1000000 := by omega
    have HPL := Aside0.mk hpl
    clear ho hB hlt hl bX hBx hb hpl
    gi_wp2_with (gi_at_builtin; go_loud (refine wpListIn_append_own _ rfl _ _ 28 rfl w.heap.size 24 i0 (.agg #[(.int .u8 0), (.int .i64 0), (.string ⟨#[]⟩)]) 3 32 Tryd.underlying28 hi hz0 hz1 hz2' rfl (by decide) v pre.length (pre.flatMap vlist) rfl (HO.out.alloc _) ⟨W.heap.size, 0, none⟩ 1 1 (vlist x) rfl rfl ?nws ?one ?b1 ?b2 ?b3 ?_; (case nws => exact HNW.out); (case one => exact HONE.out); (case b1 => have := HPL.out; simp only [maxLen]; omega); (case b2 => have := HPL.out; omega); (case b3 => simp; have := blk_lt HZ.out; omega); intro v' w4 hown' hgrow _; obtain ⟨g', cap', rfl⟩ := ownsRow_succ hown'; have hb4 := blk_grown HZA.out hgrow HNE.out; have hc4 : w4.cell? ⟨w.heap.size, 0, none⟩ = some v := (blk_cell hb4 0).trans rfl; have hf4 := blk_frozen hb4 0))
    have hle : w.heap.size ≤ W.heap.size := Nat.le_of_lt (blk_lt HZ.out)
    have hbl : Below w.heap.size W (w4.setCell ⟨w.heap.size, 0, none⟩ (.slice (some ⟨g', 0, none⟩) (pre.length + 1) cap')) :=
      (((Below.refl w.heap.size W).alloc hle _).grown hgrow (by simp; omega) (own_base HO.out)).setCell (p := ⟨w.heap.size, 0, none⟩) (Nat.le_refl _) _
    refine ⟨(((KeepsOthers.alloc W _).trans (KeepsOthers.of_grownBy hgrow ?_)).trans (KeepsOthers.setCell _ _ _)).from _, hbl, ⟨⟨_, blk_put hb4 0 _ rfl, ?_⟩⟩, HBe.out.trans hbl⟩
    · intro j o e hj
      obtain ⟨cells, hcc⟩ := own_typed (HO.out.alloc (.cells #[.int .u8 x.f0, .int .i64 x.f1, .string x.f2] 24)) j e
      rw [hcc] at hj
      obtain rfl := Option.some.inj hj
      rfl
    · have hk := hown'.kept (grownBy_setCell' w4 w.heap.size (.slice (some ⟨g', 0, none⟩) (pre.length + 1) cap')) (.inr (fun e => own_ne hown' hb4 (show 24 ≠ 28 by decide) e.symm))
      have e1 : (pre ++ [x]).length = pre.length + 1 := by simp
      have e2 : (pre ++ [x]).flatMap vlist = pre.flatMap vlist ++ vlist x := by simp
      rw [e1, e2]
      exact hk
  case done =>
    rintro D ys W hD rfl ⟨⟨v, hb, ho⟩, hB⟩ hK
    have hc2 : W.cell? ⟨w.heap.size, 0, none⟩ = some v := (blk_cell hb 0).trans rfl
    gi_wp2
    refine ⟨by simp, .inl ⟨_, _, rfl, run_takeDeferred hK, ?_⟩⟩
    refine ⟨_, results_tmp rfl _ _ _, _, rfl, ho.kept (grownBy_putObj' _ D _) ?_, hB.trans (belowK_b (w := w) (Nat.le_refl _) W D _ _ (by simp at hD; omega) hK rfl rfl)⟩
    cases hv : v.ownBlock with
    | none => exact .inl rfl
    | some k =>
      obtain ⟨cells, hcc⟩ := own_typed ho k hv
      exact .inr (fun e => by injection e with e; subst e; rw [hK] at hcc; cases hcc)
  case stop =>
    rintro D c pre W _ _ h _
    exact h.elim

theorem reps_vlist (d : S24 → List Value → Prop) (hd : ∀ x, d x (vlist x)) : ∀ l : List S24, Reps d 3 l (l.flatMap vlist) := fun l => by
  suffices h : ∀ (n : Nat) (l : List S24), l.length = n → Reps d 3 l (l.flatMap vlist) from h _ l rfl
  intro n
  induction n with
  | zero => intro l h; rw [List.length_eq_zero_iff.1 h]; exact Reps.none _ _
  | succ n ih =>
    intro l h
    obtain ⟨init, last, rfl⟩ : ∃ init last, l = init ++ [last] := ⟨l.dropLast, l.getLast (by intro e; rw [e] at h; cases h), (List.dropLast_concat_getLast _).symm⟩
    have e : (init ++ [last]).flatMap vlist = init.flatMap vlist ++ vlist last := by simp
    rw [e]
    exact Reps.snoc (ih init (by simpa using h)) (hd last) rfl
theorem R_of_vlist {W : World} {B : Nat} {v : Value} {l : List S24} (h : W.ownsRow B 24 3 v l.length (l.flatMap vlist)) : Kd.R k24 24 W B (fun k => B ≤ k) v l :=
  ⟨fun k hk => own_base h k hk, _, h, reps_vlist _ (fun x => k24_mkM _ _ _ x) l⟩

theorem append_seq (Bs : Nat) (A : Option Addr) (c : Nat) (xs : List S24) (w : World) (hC : Kd.C k24 w A xs.length xs) (hblk : ∀ ad, A = some ad → ad.block < w.heap.size) (hBs : Bs < w.heap.size) (hc : w.cell? ⟨Bs, 0, none⟩ = some (.slice A xs.length c)) (hl : xs.length ≤ 1000000) :
    Calls Tryd.prog 84 #[.slice none 0 0, .func (.func 68) #[] #[.pointer (some ⟨Bs, 0, none⟩)]] w fun e W' => ∃ v, e = .returned v ∧ Kd.R k24 24 W' w.heap.size (fun k => w.heap.size ≤ k) v xs ∧ Below w.heap.size w W' := by
  refine ((callsIn_wide (n := 3)).1 (append_seq_in _ 3 trivial trivial rfl (by omega) Bs A c xs w hC hblk hBs hc hl)).mono ?_
  rintro e w' ⟨v, rfl, ho, hb⟩
  exact ⟨v, rfl, R_of_vlist ho, hb⟩

set_option maxRecDepth 100000 in
set_option maxHeartbeats 4000000 in
theorem collect_seq (Bs : Nat) (A : Option Addr) (c : Nat) (xs : List S24) (w : World) (hC : Kd.C k24 w A xs.length xs) (hblk : ∀ ad, A = some ad → ad.block < w.heap.size) (hBs : Bs < w.heap.size) (hc : w.cell? ⟨Bs, 0, none⟩ = some (.slice A xs.length c)) (hl : xs.length ≤ 1000000) :
    Calls Tryd.prog 66 #[.func (.func 68) #[] #[.pointer (some ⟨Bs, 0, none⟩)]] w fun e W' => ∃ v, e = .returned v ∧ Kd.R k24 24 W' w.heap.size (fun k => w.heap.size ≤ k) v xs ∧ Below w.heap.size w W' := by
  have H := Aside0.mk (append_seq Bs A c xs w hC hblk hBs hc hl)
  clear hC hblk hBs hc hl
  go_enter Tryd.func66, Tryd.ntmps66
  go_wp2_with fail
  refine H.out.mono ?_
  rintro e w5 ⟨v, rfl, hR, hb⟩
  go_wp2
  go_ret
  exact ⟨_, rfl, hR, hb⟩

set_option maxRecDepth 100000 in
set_option maxHeartbeats 4000000 in
theorem values_fn (A : Option Addr) (len c : Nat) (w : World) :
    Calls Tryd.prog 49 #[.slice A len c] w fun e W' => e = .returned (.func (.func 68) #[] #[.pointer (some ⟨w.heap.size, 0, none⟩)]) ∧ W' = w.alloc (.cells #[.slice A len c] 28) := by
  go_enter Tryd.func49, Tryd.ntmps49
  go_wp2
  go_ret
  exact ⟨rfl, rfl⟩
end Go.Proofs.YtjankdoaobklgaaDoor.Q
end
