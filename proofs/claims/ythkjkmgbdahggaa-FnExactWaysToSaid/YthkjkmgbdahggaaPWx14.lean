/- A text printed by this session's wip/myprint.py over the kit's print: contracts of functions of the given program, each at what its Lean function says. -/
import Derived.Test.YthkjkmgbdahggaaPWx0
import Derived.Test.YthkjkmgbdahggaaPWx7
import Derived.Test.YthkjkmgbdahggaaPWx11
namespace Go.Proofs.Ythkjkmgbdahggaa.PW
open Go.RowKit Go.Proofs.YthkjkmgbdahggaaW.PrintWords Go.Proofs.YthkjkmgbdahggaaW.PrintLast Go.Proofs.YthkjkmgbdahggaaW.PrintMore Go.Proofs.Ythkjkmgbdahggaa.Sq
attribute [local go_sem] max2_int min2_int max_two min_two max_three min_three max_four min_four   -- for this text's walks alone
set_option linter.unusedVariables false
set_option linter.unusedSimpArgs false

-- NOT PRINTED: function 106 (slices_Sort_int_int)

-- NOT PRINTED: function 107 (slices_Compact_int_int)

/-! ### impl_bounds: function 84 -/
def impl_bounds.l0 : Nat → List Int → List (S40) → Int → Int → Option (List Int)
 | 0, _, _, _, _ => none
 | k + 1, x3, x7, x8, x9 => if x9 < x8 then (if 0 ≤ x9 then (if x9 < (x7.length : Int) then (if x3.length < 17592186044416 then ((some (x3 ++ [(rd_T40 x7 x9).f0] : List Int)).bind fun y371 => ((impl_Block_last.f ((rd_T40 x7 x9).f0) ((rd_T40 x7 x9).f1)).bind fun t374 => (if t374 < 4294967295 then ((impl_Block_last.f ((rd_T40 x7 x9).f0) ((rd_T40 x7 x9).f1)).bind fun t375 => (if y371.length < 17592186044416 then (impl_bounds.l0 k (y371 ++ [wrap64 (t375 + 1)]) x7 x8 (wrap64 (x9 + 1))) else (none))) else (impl_bounds.l0 k y371 x7 x8 (wrap64 (x9 + 1)))))) else (none)) else (none)) else (none)) else (if x3.length < 4611686018427387904 then (some (Go.Proofs.Ythkjkmgbdahggaa.SrtN.nrm x3)) else (none))
def impl_bounds.f (k : Nat) (l0 : List (S40)) : Option (List Int) := impl_bounds.l0 k (([0] : List Int)) l0 (l0.length : Int) 0
theorem impl_bounds.mono_l : ∀ k, (∀ y0 y1 y2 y3, LeO (impl_bounds.l0 k y0 y1 y2 y3) (impl_bounds.l0 (k + 1) y0 y1 y2 y3))
 | 0 => fun _ _ _ _ r h => by simp [impl_bounds.l0] at h
 | k + 1 => by
  have ih0 := impl_bounds.mono_l k
  ·intro y0 y1 y2 y3
   unfold impl_bounds.l0
   repeat' first
   | (with_reducible exact ih0 _ _ _ _)
   | (with_reducible exact LeO.refl _)
   | (with_reducible exact LeO.none _)
   | (with_reducible refine LeO.ite ?_ ?_)
   | (with_reducible refine LeO.bind ?_ (fun _ => ?_))
   | exact ih0 _ _ _ _
   | exact LeO.none _
   | refine LeO.ite ?_ ?_
   | refine LeO.bind ?_ (fun _ => ?_)
theorem impl_bounds.mono : ∀ a0 k, LeO (impl_bounds.f k a0) (impl_bounds.f (k + 1) a0) := by
 intro a0 k
 have ih0 := impl_bounds.mono_l k
 unfold impl_bounds.f
 repeat' first
   | (with_reducible exact ih0 _ _ _ _)
   | (with_reducible exact LeO.refl _)
   | (with_reducible exact LeO.none _)
   | (with_reducible refine LeO.ite ?_ ?_)
   | (with_reducible refine LeO.bind ?_ (fun _ => ?_))
   | exact ih0 _ _ _ _
   | exact LeO.none _
   | refine LeO.ite ?_ ?_
   | refine LeO.bind ?_ (fun _ => ?_)
set_option maxHeartbeats 8000000 in
set_option maxRecDepth 100000 in
theorem impl_bounds.calls (k : Nat) (A0 : Option Addr) (c0 : Nat) (l0 : List (S40)) (r : List Int) (w : World) (hr0 : Kd.C k40 w A0 l0.length l0) (hc0 : l0.length ≤ c0) (h : impl_bounds.f k l0 = some r) :
  Calls Try.prog 84 #[.slice A0 l0.length c0] w fun e w' => ∃ v0_ : Value, e = .returned (v0_) ∧ Kd.R (Kd.int .i64) 3 w' w.heap.size (fun _ => True) v0_ r ∧ Below w.heap.size w w' := by
 have hu40 := Try.underlying40
 have HR0 := Aside0.mk hr0
 have HC0 := Aside0.mk hc0
 clear hr0 hc0
 have HB := Aside0.mk (Below.refl w.heap.size w)
 have H : (impl_bounds.l0 k (([0] : List Int)) l0 (l0.length : Int) 0) = some r := h
 clear h
 obtain ⟨y366, hy366⟩ : ∃ y_ : List Int, y_ = (([0] : List Int)) := ⟨_, rfl⟩
 replace H : (impl_bounds.l0 k y366 l0 (l0.length : Int) 0) = some r := by first | (rw [hy366]; with_reducible exact H) | (have H2_ := (Option.bind_some _ _).symm.trans H; rw [hy366]; with_reducible exact H2_) | (have H2_ := (Option.bind_some _ _).symm.trans H; with_reducible exact H2_) | with_reducible exact H | (rw [hy366]; exact H) | exact H
 have Ny366 := Aside0.mk hy366
 clear hy366
 have H' := Aside0.mk H
 clear H
 go_enter Try.func84, Try.ntmps84
 go_wp2_with (first | (refine gt 6 ?_; refine rl (Kd.int .i64) 3 6 ([0] : List Int) [.int .i64 0] ?hp ?_; (case hp => exact zz24); intro v367 w2 ho3 hb hg_ hnew_; clear hg_ hnew_; (first | rw [← Ny366.out] at ho3 | (simp only [Int.reduceToNat] at ho3; rw [← Ny366.out] at ho3)); have HO368 := Aside0.mk (Kd.R_lower ho3 (below_size zz2)); replace HB := Aside0.mk (below_step zz2 hb); clear hb ho3))
 go_loopg [3, 9] k (fun kq v3 v9 w' => ∃ (x3_1 : List Int) (x9_1 : Int), v9 = .int .i64 x9_1 ∧ Aside0 (impl_bounds.l0 kq x3_1 l0 (l0.length : Int) x9_1 = some r) ∧ Aside0 (kq ≤ k) ∧ Aside0 (Kd.R (Kd.int .i64) 3 w' w.heap.size (fun _ => True) v3 x3_1) ∧ Aside0 (Below w.heap.size w w'))
 case atStart => exact ⟨(y366), (0), zz8, H', ⟨Nat.le_refl _⟩, ⟨zz13 HO368⟩, ⟨zz2⟩⟩
 case round =>
  clear H'
  try clear p2
  obtain ⟨x3_1, x9_1, rfl, HA, HK1, HO_3, HB⟩ := hrel
  cases gk with
  | zero => exact absurd HA.out (by simp [impl_bounds.l0])
  | succ k1 =>
   have H := HA.out
   clear HA
   simp only [impl_bounds.l0] at H
   replace H := ic H
   rcases H with ⟨c4b0, H⟩ | ⟨c4b0, H⟩
   ·replace H := gd H
    obtain ⟨c5b0, H⟩ := H
    replace H := gd H
    obtain ⟨c6b0, H⟩ := H
    replace H := gp H
    obtain ⟨c7, H⟩ := H
    have LMc7 := Aside0.mk c7
    clear c7
    obtain ⟨y371, hy371⟩ : ∃ y_ : List Int, y_ = (x3_1 ++ [(rd_T40 l0 x9_1).f0]) := ⟨_, rfl⟩
    replace H : ((impl_Block_last.f ((rd_T40 l0 x9_1).f0) ((rd_T40 l0 x9_1).f1)).bind fun t374 => (if t374 < 4294967295 then ((impl_Block_last.f ((rd_T40 l0 x9_1).f0) ((rd_T40 l0 x9_1).f1)).bind fun t375 => (if y371.length < 17592186044416 then (impl_bounds.l0 k1 (y371 ++ [wrap64 (t375 + 1)]) l0 (l0.length : Int) (wrap64 (x9_1 + 1))) else (none))) else (impl_bounds.l0 k1 y371 l0 (l0.length : Int) (wrap64 (x9_1 + 1))))) = some r := by first | (rw [hy371]; with_reducible exact H) | (have H2_ := (Option.bind_some _ _).symm.trans H; rw [hy371]; with_reducible exact H2_) | (have H2_ := (Option.bind_some _ _).symm.trans H; with_reducible exact H2_) | with_reducible exact H | (rw [hy371]; exact H) | exact H
    have Ny371 := Aside0.mk hy371
    clear hy371
    replace H := bd H
    obtain ⟨t374, A8, H⟩ := H
    replace H : (if t374 < 4294967295 then ((impl_Block_last.f ((rd_T40 l0 x9_1).f0) ((rd_T40 l0 x9_1).f1)).bind fun t375 => (if y371.length < 17592186044416 then (impl_bounds.l0 k1 (y371 ++ [wrap64 (t375 + 1)]) l0 (l0.length : Int) (wrap64 (x9_1 + 1))) else (none))) else (impl_bounds.l0 k1 y371 l0 (l0.length : Int) (wrap64 (x9_1 + 1)))) = some r := H
    replace H := ic H
    rcases H with ⟨c9b0, H⟩ | ⟨c9b0, H⟩
    ·replace H := Option.bind_eq_some_iff.mp H
     obtain ⟨t375, A100, H⟩ := H
     replace H : (if y371.length < 17592186044416 then (impl_bounds.l0 k1 (y371 ++ [wrap64 (t375 + 1)]) l0 (l0.length : Int) (wrap64 (x9_1 + 1))) else (none)) = some r := H
     have A10 := Aside0.mk A100
     clear A100
     replace H := gp H
     obtain ⟨c11, H⟩ := H
     have LMc11 := Aside0.mk c11
     clear c11
     obtain ⟨y376, hy376⟩ : ∃ y_ : List Int, y_ = (y371 ++ [wrap64 (t375 + 1)]) := ⟨_, rfl⟩
     replace H : (impl_bounds.l0 k1 y376 l0 (l0.length : Int) (wrap64 (x9_1 + 1))) = some r := by first | (rw [hy376]; with_reducible exact H) | (have H2_ := (Option.bind_some _ _).symm.trans H; rw [hy376]; with_reducible exact H2_) | (have H2_ := (Option.bind_some _ _).symm.trans H; with_reducible exact H2_) | with_reducible exact H | (rw [hy376]; exact H) | exact H
     have Ny376 := Aside0.mk hy376
     clear hy376
     have H' := Aside0.mk H
     clear H
     obtain ⟨⟨ad369, e369, hx369_0, hx369_1⟩, p369, q369⟩ := wi (at_T40 HR0.out x9_1)
     cases e369
     replace hx369_0 := (HB.out.cell (World.block_lt_of_cell? w _ hx369_0)).trans hx369_0
     replace hx369_1 := (HB.out.cell (World.block_lt_of_cell? w _ hx369_1)).trans hx369_1
     go_wp2_with (first | (refine be 5 #[.int .i64 0, .int .i64 0] 40 ?_; intro gb370 hg w12 hbox hb; replace HO_3 := Aside0.mk (Kd.R_below (zz13 HO_3) hb); have BK370 := Aside0.mk hbox; have GW370 := Aside0.mk (zz1 : w.heap.size ≤ gb370); have GE370 := Aside0.mk (zz1 : w.heap.size ≤ gb370); replace HB := Aside0.mk (below_step zz2 hb); clear hb hbox hg; have hcz13_0 : w12.cell? ⟨gb370, 0, none⟩ = some (.int .i64 0) := (blk_cell BK370.out 0).trans rfl; have hcz13_1 : w12.cell? ⟨gb370, 1, none⟩ = some (.int .i64 0) := (blk_cell BK370.out 1).trans rfl; have hfz13_0 := blk_frozen BK370.out 0; have hfz13_1 := blk_frozen BK370.out 1) | ((with_reducible refine gate_builtin (b := .append) (xs := #[.tmp 13, .tmp 16]) rfl ?_); at_builtin; refine Kd.R_append (Kd.int .i64) (w0 := w) w.heap.size rfl (.tmp 13) (.tmp 16) 65 3 (.int .i64 0) 8 rfl Try.underlying65 info3 rfl (by decide) (by omega) u3 x3_1 ((rd_T40 l0 x9_1).f0) [.int .i64 ((rd_T40 l0 x9_1).f0)] (fun _ => True) (fun _ => False) rfl zz14 ?aP (fun _ hk => hk.elim) ?aF ?aO ?aB ?aS ?aL ?_; (case aP => exact rfl); (case aB => exact zz4 GE370); (case aF => exact zz40); (case aO => (with_reducible repeat (first | apply Kd.R_alloc | apply Kd.R_drewN | apply Kd.R_drew)); exact Kd.R_mono (Kd.R_far (p := ⟨gb370, 1, none⟩) (Kd.R_far (p := ⟨gb370, 0, none⟩) (Kd.R_types HO_3.out BK370.out (by decide)) (fun _ hk => hk.2) (.int .i64 ((rd_T40 l0 x9_1).f0))) (fun _ hk => hk.2) (.int .i64 ((rd_T40 l0 x9_1).f1))) (fun _ hk => trivial)); (case aS => exact zz15 GE370); (case aL => exact zz9 LMc7); intro v372 w14 ho hb hg hat; rw [← Ny371.out] at ho; replace BK370 := Aside0.mk (blk_grown (g := gb370) (o := .cells #[.int .i64 ((rd_T40 l0 x9_1).f0), .int .i64 ((rd_T40 l0 x9_1).f1)] 40 (0, 0)) (by (with_reducible repeat (first | refine blk_drewN ?_ _ | refine blk_drew ?_ | refine blk_alloc ?_ _)); refine blk_put (cs := #[.int .i64 ((rd_T40 l0 x9_1).f0), .int .i64 0]) ?_ 1 _ rfl; (with_reducible repeat (first | refine blk_drewN ?_ _ | refine blk_drew ?_ | refine blk_alloc ?_ _)); refine blk_put (cs := #[.int .i64 0, .int .i64 0]) ?_ 0 _ rfl; (with_reducible repeat (first | refine blk_drewN ?_ _ | refine blk_drew ?_ | refine blk_alloc ?_ _)); exact BK370.out) hg (Kd.R_ne HO_3.out BK370.out (by decide))); replace HB := Aside0.mk hb; have HO373 := Aside0.mk ho; clear HO_3 ho hb hg hat; have hcz15_0 : w14.cell? ⟨gb370, 0, none⟩ = some (.int .i64 ((rd_T40 l0 x9_1).f0)) := (blk_cell BK370.out 0).trans rfl; have hcz15_1 : w14.cell? ⟨gb370, 1, none⟩ = some (.int .i64 ((rd_T40 l0 x9_1).f1)) := (blk_cell BK370.out 1).trans rfl; have hfz15_0 := blk_frozen BK370.out 0; have hfz15_1 := blk_frozen BK370.out 1) | (refine gc (some 19) Try.func89 #[.agg #[.int .i64 ((rd_T40 l0 x9_1).f0), .int .i64 ((rd_T40 l0 x9_1).f1)]] ?_; (with_reducible refine (impl_Block_last.calls ((rd_T40 l0 x9_1).f0) ((rd_T40 l0 x9_1).f1) t374 _ A8.out).mono ?_); rintro e w16 ⟨rfl, hb⟩; refine ⟨_, rfl, ?_⟩; replace HO373 := Aside0.mk (Kd.R_below (zz13 HO373) hb); replace BK370 := Aside0.mk (blk_below (g := gb370) (o := .cells #[.int .i64 ((rd_T40 l0 x9_1).f0), .int .i64 ((rd_T40 l0 x9_1).f1)] 40 (0, 0)) (zz5 BK370) hb); replace HB := Aside0.mk (below_step (zz4 GE370) hb); clear hb; have hcz17_0 : w16.cell? ⟨gb370, 0, none⟩ = some (.int .i64 ((rd_T40 l0 x9_1).f0)) := (blk_cell BK370.out 0).trans rfl; have hcz17_1 : w16.cell? ⟨gb370, 1, none⟩ = some (.int .i64 ((rd_T40 l0 x9_1).f1)) := (blk_cell BK370.out 1).trans rfl; have hfz17_0 := blk_frozen BK370.out 0; have hfz17_1 := blk_frozen BK370.out 1) | (refine gc (some 23) Try.func89 #[.agg #[.int .i64 ((rd_T40 l0 x9_1).f0), .int .i64 ((rd_T40 l0 x9_1).f1)]] ?_; (with_reducible refine (impl_Block_last.calls ((rd_T40 l0 x9_1).f0) ((rd_T40 l0 x9_1).f1) t375 _ A10.out).mono ?_); rintro e w18 ⟨rfl, hb⟩; refine ⟨_, rfl, ?_⟩; replace HO373 := Aside0.mk (Kd.R_below (zz13 HO373) hb); replace BK370 := Aside0.mk (blk_below (g := gb370) (o := .cells #[.int .i64 ((rd_T40 l0 x9_1).f0), .int .i64 ((rd_T40 l0 x9_1).f1)] 40 (0, 0)) (zz5 BK370) hb); replace HB := Aside0.mk (below_step (zz4 GE370) hb); clear hb) | ((with_reducible refine gate_builtin (b := .append) (xs := #[.tmp 21, .tmp 25]) rfl ?_); at_builtin; refine Kd.R_append (Kd.int .i64) (w0 := w) w.heap.size rfl (.tmp 21) (.tmp 25) 65 3 (.int .i64 0) 8 rfl Try.underlying65 info3 rfl (by decide) (by omega) v372 y371 (wrap64 (t375 + 1)) [.int .i64 (wrap64 (t375 + 1))] (fun _ => True) (fun _ => False) rfl rfl ?aP (fun _ hk => hk.elim) ?aF ?aO ?aB ?aS ?aL ?_; (case aP => exact rfl); (case aB => exact zz4 GE370); (case aF => exact zz40); (case aO => exact zz13 HO373); (case aS => exact zz15 GE370); (case aL => exact zz9 LMc11); intro v377 w19 ho hb hg hat; rw [← Ny376.out] at ho; replace BK370 := Aside0.mk (blk_grown (g := gb370) (o := .cells #[.int .i64 ((rd_T40 l0 x9_1).f0), .int .i64 ((rd_T40 l0 x9_1).f1)] 40 (0, 0)) (zz5 BK370) hg (Kd.R_ne HO373.out BK370.out (by decide))); replace HB := Aside0.mk hb; have HO378 := Aside0.mk ho; clear HO373 ho hb hg hat))
     go_roundg k1
     case measure => have := HK1.out; omega
     case rel => exact ⟨(y376), (wrap64 (x9_1 + 1)), zz8, H', ⟨zz9 HK1⟩, ⟨zz13 HO378⟩, ⟨zz4 GE370⟩⟩
    ·have H' := Aside0.mk H
     clear H
     obtain ⟨⟨ad369, e369, hx369_0, hx369_1⟩, p369, q369⟩ := wi (at_T40 HR0.out x9_1)
     cases e369
     replace hx369_0 := (HB.out.cell (World.block_lt_of_cell? w _ hx369_0)).trans hx369_0
     replace hx369_1 := (HB.out.cell (World.block_lt_of_cell? w _ hx369_1)).trans hx369_1
     go_wp2_with (first | (refine be 5 #[.int .i64 0, .int .i64 0] 40 ?_; intro gb370 hg w20 hbox hb; replace HO_3 := Aside0.mk (Kd.R_below (zz13 HO_3) hb); have BK370 := Aside0.mk hbox; have GW370 := Aside0.mk (zz1 : w.heap.size ≤ gb370); have GE370 := Aside0.mk (zz1 : w.heap.size ≤ gb370); replace HB := Aside0.mk (below_step zz2 hb); clear hb hbox hg; have hcz21_0 : w20.cell? ⟨gb370, 0, none⟩ = some (.int .i64 0) := (blk_cell BK370.out 0).trans rfl; have hcz21_1 : w20.cell? ⟨gb370, 1, none⟩ = some (.int .i64 0) := (blk_cell BK370.out 1).trans rfl; have hfz21_0 := blk_frozen BK370.out 0; have hfz21_1 := blk_frozen BK370.out 1) | ((with_reducible refine gate_builtin (b := .append) (xs := #[.tmp 13, .tmp 16]) rfl ?_); at_builtin; refine Kd.R_append (Kd.int .i64) (w0 := w) w.heap.size rfl (.tmp 13) (.tmp 16) 65 3 (.int .i64 0) 8 rfl Try.underlying65 info3 rfl (by decide) (by omega) u3 x3_1 ((rd_T40 l0 x9_1).f0) [.int .i64 ((rd_T40 l0 x9_1).f0)] (fun _ => True) (fun _ => False) rfl zz14 ?aP (fun _ hk => hk.elim) ?aF ?aO ?aB ?aS ?aL ?_; (case aP => exact rfl); (case aB => exact zz4 GE370); (case aF => exact zz40); (case aO => (with_reducible repeat (first | apply Kd.R_alloc | apply Kd.R_drewN | apply Kd.R_drew)); exact Kd.R_mono (Kd.R_far (p := ⟨gb370, 1, none⟩) (Kd.R_far (p := ⟨gb370, 0, none⟩) (Kd.R_types HO_3.out BK370.out (by decide)) (fun _ hk => hk.2) (.int .i64 ((rd_T40 l0 x9_1).f0))) (fun _ hk => hk.2) (.int .i64 ((rd_T40 l0 x9_1).f1))) (fun _ hk => trivial)); (case aS => exact zz15 GE370); (case aL => exact zz9 LMc7); intro v372 w22 ho hb hg hat; rw [← Ny371.out] at ho; replace BK370 := Aside0.mk (blk_grown (g := gb370) (o := .cells #[.int .i64 ((rd_T40 l0 x9_1).f0), .int .i64 ((rd_T40 l0 x9_1).f1)] 40 (0, 0)) (by (with_reducible repeat (first | refine blk_drewN ?_ _ | refine blk_drew ?_ | refine blk_alloc ?_ _)); refine blk_put (cs := #[.int .i64 ((rd_T40 l0 x9_1).f0), .int .i64 0]) ?_ 1 _ rfl; (with_reducible repeat (first | refine blk_drewN ?_ _ | refine blk_drew ?_ | refine blk_alloc ?_ _)); refine blk_put (cs := #[.int .i64 0, .int .i64 0]) ?_ 0 _ rfl; (with_reducible repeat (first | refine blk_drewN ?_ _ | refine blk_drew ?_ | refine blk_alloc ?_ _)); exact BK370.out) hg (Kd.R_ne HO_3.out BK370.out (by decide))); replace HB := Aside0.mk hb; have HO373 := Aside0.mk ho; clear HO_3 ho hb hg hat; have hcz23_0 : w22.cell? ⟨gb370, 0, none⟩ = some (.int .i64 ((rd_T40 l0 x9_1).f0)) := (blk_cell BK370.out 0).trans rfl; have hcz23_1 : w22.cell? ⟨gb370, 1, none⟩ = some (.int .i64 ((rd_T40 l0 x9_1).f1)) := (blk_cell BK370.out 1).trans rfl; have hfz23_0 := blk_frozen BK370.out 0; have hfz23_1 := blk_frozen BK370.out 1) | (refine gc (some 19) Try.func89 #[.agg #[.int .i64 ((rd_T40 l0 x9_1).f0), .int .i64 ((rd_T40 l0 x9_1).f1)]] ?_; (with_reducible refine (impl_Block_last.calls ((rd_T40 l0 x9_1).f0) ((rd_T40 l0 x9_1).f1) t374 _ A8.out).mono ?_); rintro e w24 ⟨rfl, hb⟩; refine ⟨_, rfl, ?_⟩; replace HO373 := Aside0.mk (Kd.R_below (zz13 HO373) hb); replace BK370 := Aside0.mk (blk_below (g := gb370) (o := .cells #[.int .i64 ((rd_T40 l0 x9_1).f0), .int .i64 ((rd_T40 l0 x9_1).f1)] 40 (0, 0)) (zz5 BK370) hb); replace HB := Aside0.mk (below_step (zz4 GE370) hb); clear hb))
     go_roundg k1
     case measure => have := HK1.out; omega
     case rel => exact ⟨(y371), (wrap64 (x9_1 + 1)), zz8, H', ⟨zz9 HK1⟩, ⟨zz13 HO373⟩, ⟨zz4 GE370⟩⟩
   ·obtain ⟨hln_, H⟩ := Option.ite_none_right_eq_some.mp H
    obtain rfl := Option.some.inj H
    go_wp2_with (first | (go_at_call 106; refine (Go.Proofs.Ythkjkmgbdahggaa.SrtN.sortN (base := w.heap.size) (zz13 HO_3) zz2 (below_size zz2) hln_).mono ?_; rintro e w1_ ⟨rfl, hr1_, hb1_, hz1_⟩) | (go_at_call 107; refine (Go.Proofs.Ythkjkmgbdahggaa.SrtN.compactN hr1_ hb1_ hz1_).mono ?_; rintro e w2_ ⟨v2_, rfl, hr2_, hb2_⟩))
    go_ret
    exact ⟨_, rfl, hr2_, hb2_⟩

/-! ### impl_blocksOf: function 85 -/
mutual
def impl_blocksOf.l0 : Nat → List (S40) → List (List (S95)) → Int → Int → Option ((List (S40)))
 | 0, _, _, _, _ => none
 | k + 1, x3, x8, x9, x10 => if x10 < x9 then (if 0 ≤ x10 then (if x10 < (x8.length : Int) then (impl_blocksOf.l1 k x3 x8 x9 x10 (rd_L8 x8 x10) ((rd_L8 x8 x10).length : Int) 0) else (none)) else (none)) else (some x3)
def impl_blocksOf.l1 : Nat → List (S40) → List (List (S95)) → Int → Int → List (S95) → Int → Int → Option ((List (S40)))
 | 0, _, _, _, _, _, _, _ => none
 | k + 1, x3, x8, x9, x10, x14, x15, x16 => if x16 < x15 then (if 0 ≤ x16 then (if x16 < (x14.length : Int) then (if x3.length < 8796093022208 then (impl_blocksOf.l1 k (x3 ++ [(⟨(rd_T95 x14 x16).f0.f0, (rd_T95 x14 x16).f0.f1⟩ : S40)]) x8 x9 x10 x14 x15 (wrap64 (x16 + 1))) else (none)) else (none)) else (none)) else (impl_blocksOf.l0 k x3 x8 x9 (wrap64 (x10 + 1)))
end
def impl_blocksOf.f (k : Nat) (l0 : List (List (S95))) : Option ((List (S40))) := impl_blocksOf.l0 k ([] : List (S40)) l0 (l0.length : Int) 0
theorem impl_blocksOf.mono_l : ∀ k, (∀ y0 y1 y2 y3, LeO (impl_blocksOf.l0 k y0 y1 y2 y3) (impl_blocksOf.l0 (k + 1) y0 y1 y2 y3)) ∧ (∀ y0 y1 y2 y3 y4 y5 y6, LeO (impl_blocksOf.l1 k y0 y1 y2 y3 y4 y5 y6) (impl_blocksOf.l1 (k + 1) y0 y1 y2 y3 y4 y5 y6))
 | 0 => ⟨fun _ _ _ _ r h => by simp [impl_blocksOf.l0] at h, fun _ _ _ _ _ _ _ r h => by simp [impl_blocksOf.l1] at h⟩
 | k + 1 => by
  obtain ⟨ih0, ih1⟩ := impl_blocksOf.mono_l k
  refine ⟨?_, ?_⟩
  ·intro y0 y1 y2 y3
   unfold impl_blocksOf.l0
   repeat' first
   | (with_reducible exact ih0 _ _ _ _)
   | (with_reducible exact ih1 _ _ _ _ _ _ _)
   | (with_reducible exact LeO.refl _)
   | (with_reducible exact LeO.none _)
   | (with_reducible refine LeO.ite ?_ ?_)
   | (with_reducible refine LeO.bind ?_ (fun _ => ?_))
   | exact ih0 _ _ _ _
   | exact ih1 _ _ _ _ _ _ _
   | exact LeO.none _
   | refine LeO.ite ?_ ?_
   | refine LeO.bind ?_ (fun _ => ?_)
  ·intro y0 y1 y2 y3 y4 y5 y6
   unfold impl_blocksOf.l1
   repeat' first
   | (with_reducible exact ih0 _ _ _ _)
   | (with_reducible exact ih1 _ _ _ _ _ _ _)
   | (with_reducible exact LeO.refl _)
   | (with_reducible exact LeO.none _)
   | (with_reducible refine LeO.ite ?_ ?_)
   | (with_reducible refine LeO.bind ?_ (fun _ => ?_))
   | exact ih0 _ _ _ _
   | exact ih1 _ _ _ _ _ _ _
   | exact LeO.none _
   | refine LeO.ite ?_ ?_
   | refine LeO.bind ?_ (fun _ => ?_)
theorem impl_blocksOf.mono : ∀ a0 k, LeO (impl_blocksOf.f k a0) (impl_blocksOf.f (k + 1) a0) := by
 intro a0 k
 obtain ⟨ih0, ih1⟩ := impl_blocksOf.mono_l k
 unfold impl_blocksOf.f
 repeat' first
   | (with_reducible exact ih0 _ _ _ _)
   | (with_reducible exact ih1 _ _ _ _ _ _ _)
   | (with_reducible exact LeO.refl _)
   | (with_reducible exact LeO.none _)
   | (with_reducible refine LeO.ite ?_ ?_)
   | (with_reducible refine LeO.bind ?_ (fun _ => ?_))
   | exact ih0 _ _ _ _
   | exact ih1 _ _ _ _ _ _ _
   | exact LeO.none _
   | refine LeO.ite ?_ ?_
   | refine LeO.bind ?_ (fun _ => ?_)
set_option maxHeartbeats 8000000 in
set_option maxRecDepth 100000 in
theorem impl_blocksOf.calls (k : Nat) (A0 : Option Addr) (c0 : Nat) (l0 : List (List (S95))) (r : List (S40)) (w : World) (hr0 : Kd.C (Kd.slice 95 k95) w A0 l0.length l0) (hc0 : l0.length ≤ c0) (h : impl_blocksOf.f k l0 = some r) :
  Calls Try.prog 85 #[.slice A0 l0.length c0] w fun e w' => ∃ v0_ : Value, e = .returned (v0_) ∧ Kd.R k40 40 w' w.heap.size (fun _ => True) v0_ r ∧ Below w.heap.size w w' := by
 have hu95 := Try.underlying95
 have hu40 := Try.underlying40
 have HR0 := Aside0.mk hr0
 have HC0 := Aside0.mk hc0
 clear hr0 hc0
 have HB := Aside0.mk (Below.refl w.heap.size w)
 have H : (impl_blocksOf.l0 k ([] : List (S40)) l0 (l0.length : Int) 0) = some r := h
 clear h
 have H' := Aside0.mk H
 clear H
 go_enter Try.func85, Try.ntmps85
 go_wp2
 go_loopg [3, 10] k (fun kq v3 v10 w' => ∃ (x3_1 : List (S40)) (x10_1 : Int), v10 = .int .i64 x10_1 ∧ Aside0 (impl_blocksOf.l0 kq x3_1 l0 (l0.length : Int) x10_1 = some r) ∧ Aside0 (kq ≤ k) ∧ Aside0 (Kd.R k40 40 w' w.heap.size (fun _ => True) v3 x3_1) ∧ Aside0 (Below w.heap.size w w'))
 case atStart => exact ⟨(([] : List (S40))), (0), zz8, H', ⟨Nat.le_refl _⟩, ⟨zz45⟩, ⟨zz2⟩⟩
 case round =>
  clear H'
  obtain ⟨x3_1, x10_1, rfl, HA, HK1, HO_3, HB⟩ := hrel
  cases gk with
  | zero => exact absurd HA.out (by simp [impl_blocksOf.l0])
  | succ k1 =>
   have H := HA.out
   clear HA
   simp only [impl_blocksOf.l0] at H
   replace H := ic H
   rcases H with ⟨c2b0, H⟩ | ⟨c2b0, H⟩
   ·replace H := gd H
    obtain ⟨c3b0, H⟩ := H
    replace H := gd H
    obtain ⟨c4b0, H⟩ := H
    have H' := Aside0.mk H
    clear H
    have p379 : 0 ≤ (x10_1 : Int) := da
    have q379 : x10_1 < (l0.length : Int) := da
    obtain ⟨ad379, A379_0, c379_0, e379, hx379_0, hl379_0, hi379_0⟩ := at_L8 HR0.out x10_1 p379 q379
    cases e379
    replace hx379_0 := (HB.out.cell (World.block_lt_of_cell? w _ hx379_0)).trans hx379_0
    have HR379_0 := Aside0.mk hi379_0
    have HC379_0 := Aside0.mk hl379_0
    clear hi379_0 hl379_0
    replace p379 := eq_true p379
    replace q379 := eq_true q379
    go_wp2
    go_loopg [3, 16] k1 (fun kq v3 v16 w' => ∃ (x3_2 : List (S40)) (x16_2 : Int), v16 = .int .i64 x16_2 ∧ Aside0 (impl_blocksOf.l1 kq x3_2 l0 (l0.length : Int) x10_1 (rd_L8 l0 x10_1) ((rd_L8 l0 x10_1).length : Int) x16_2 = some r) ∧ Aside0 (kq ≤ k1) ∧ Aside0 (Kd.R k40 40 w' w.heap.size (fun _ => True) v3 x3_2) ∧ Aside0 (Below w.heap.size w w'))
    case atStart => exact ⟨(x3_1), (0), zz8, H', ⟨Nat.le_refl _⟩, ⟨zz13 HO_3⟩, ⟨zz2⟩⟩
    case round =>
     clear H'
     try clear c2
     try clear c2b0
     try clear p2
     try clear c3
     try clear c3b0
     try clear p3
     try clear q3
     try clear hx3
     try clear c4
     try clear c4b0
     try clear hx379_0
     try clear p379
     try clear q379
     obtain ⟨x3_2, x16_2, rfl, HA, HK2, HO_3, HB⟩ := hrel
     cases gk with
     | zero => exact absurd HA.out (by simp [impl_blocksOf.l1])
     | succ k2 =>
      have H := HA.out
      clear HA
      simp only [impl_blocksOf.l1] at H
      replace H := ic H
      rcases H with ⟨c5b0, H⟩ | ⟨c5b0, H⟩
      ·replace H := gd H
       obtain ⟨c6b0, H⟩ := H
       replace H := gd H
       obtain ⟨c7b0, H⟩ := H
       replace H := gp H
       obtain ⟨c8, H⟩ := H
       have LMc8 := Aside0.mk c8
       clear c8
       obtain ⟨y382, hy382⟩ : ∃ y_ : List (S40), y_ = (x3_2 ++ [(⟨(rd_T95 (rd_L8 l0 x10_1) x16_2).f0.f0, (rd_T95 (rd_L8 l0 x10_1) x16_2).f0.f1⟩ : S40)]) := ⟨_, rfl⟩
       replace H : (impl_blocksOf.l1 k2 y382 l0 (l0.length : Int) x10_1 (rd_L8 l0 x10_1) ((rd_L8 l0 x10_1).length : Int) (wrap64 (x16_2 + 1))) = some r := by first | (rw [hy382]; with_reducible exact H) | (have H2_ := (Option.bind_some _ _).symm.trans H; rw [hy382]; with_reducible exact H2_) | (have H2_ := (Option.bind_some _ _).symm.trans H; with_reducible exact H2_) | with_reducible exact H | (rw [hy382]; exact H) | exact H
       have Ny382 := Aside0.mk hy382
       clear hy382
       have H' := Aside0.mk H
       clear H
       obtain ⟨⟨ad380, e380, hx380_0, hx380_1, hx380_2⟩, p380, q380⟩ := wi (at_T95 HR379_0.out x16_2)
       cases e380
       replace hx380_0 := (HB.out.cell (World.block_lt_of_cell? w _ hx380_0)).trans hx380_0
       replace hx380_1 := (HB.out.cell (World.block_lt_of_cell? w _ hx380_1)).trans hx380_1
       replace hx380_2 := (HB.out.cell (World.block_lt_of_cell? w _ hx380_2)).trans hx380_2
       go_wp2_with (first | (refine be 7 #[.int .i64 0, .int .i64 0, .int .i64 0] 95 ?_; intro gb381 hg w9 hbox hb; replace HO_3 := Aside0.mk (Kd.R_below (zz13 HO_3) hb); have BK381 := Aside0.mk hbox; have GW381 := Aside0.mk (zz1 : w.heap.size ≤ gb381); have GE381 := Aside0.mk (zz1 : w.heap.size ≤ gb381); replace HB := Aside0.mk (below_step zz2 hb); clear hb hbox hg; have hcz10_0 : w9.cell? ⟨gb381, 0, none⟩ = some (.int .i64 0) := (blk_cell BK381.out 0).trans rfl; have hcz10_1 : w9.cell? ⟨gb381, 1, none⟩ = some (.int .i64 0) := (blk_cell BK381.out 1).trans rfl; have hcz10_2 : w9.cell? ⟨gb381, 2, none⟩ = some (.int .i64 0) := (blk_cell BK381.out 2).trans rfl; have hfz10_0 := blk_frozen BK381.out 0; have hfz10_1 := blk_frozen BK381.out 1; have hfz10_2 := blk_frozen BK381.out 2) | ((with_reducible refine gate_builtin (b := .append) (xs := #[.tmp 20, .tmp 23]) rfl ?_); at_builtin; refine Kd.R_append k40 (w0 := w) w.heap.size rfl (.tmp 20) (.tmp 23) 25 40 (.agg #[(.int .i64 0), (.int .i64 0)]) 16 rfl Try.underlying25 info40 rfl (by decide) (by omega) u3 x3_2 (⟨(rd_T95 (rd_L8 l0 x10_1) x16_2).f0.f0, (rd_T95 (rd_L8 l0 x10_1) x16_2).f0.f1⟩ : S40) [.int .i64 ((rd_T95 (rd_L8 l0 x10_1) x16_2).f0.f0), .int .i64 ((rd_T95 (rd_L8 l0 x10_1) x16_2).f0.f1)] (fun _ => True) (fun _ => False) rfl zz14 ?aP (fun _ hk => hk.elim) ?aF ?aO ?aB ?aS ?aL ?_; (case aP => exact k40_mkM _ _ _ (⟨(rd_T95 (rd_L8 l0 x10_1) x16_2).f0.f0, (rd_T95 (rd_L8 l0 x10_1) x16_2).f0.f1⟩ : S40)); (case aB => exact zz4 GE381); (case aF => exact zz40); (case aO => (with_reducible repeat (first | apply Kd.R_alloc | apply Kd.R_drewN | apply Kd.R_drew)); exact Kd.R_mono (Kd.R_far (p := ⟨gb381, 2, none⟩) (Kd.R_far (p := ⟨gb381, 1, none⟩) (Kd.R_far (p := ⟨gb381, 0, none⟩) (Kd.R_types HO_3.out BK381.out (by decide)) (fun _ hk => hk.2) (.int .i64 ((rd_T95 (rd_L8 l0 x10_1) x16_2).f0.f0))) (fun _ hk => hk.2) (.int .i64 ((rd_T95 (rd_L8 l0 x10_1) x16_2).f0.f1))) (fun _ hk => hk.2) (.int .i64 ((rd_T95 (rd_L8 l0 x10_1) x16_2).f1))) (fun _ hk => trivial)); (case aS => exact zz15 GE381); (case aL => exact zz9 LMc8); intro v383 w11 ho hb hg hat; rw [← Ny382.out] at ho; replace BK381 := Aside0.mk (blk_grown (g := gb381) (o := .cells #[.int .i64 ((rd_T95 (rd_L8 l0 x10_1) x16_2).f0.f0), .int .i64 ((rd_T95 (rd_L8 l0 x10_1) x16_2).f0.f1), .int .i64 ((rd_T95 (rd_L8 l0 x10_1) x16_2).f1)] 95 (0, 0)) (by (with_reducible repeat (first | refine blk_drewN ?_ _ | refine blk_drew ?_ | refine blk_alloc ?_ _)); refine blk_put (cs := #[.int .i64 ((rd_T95 (rd_L8 l0 x10_1) x16_2).f0.f0), .int .i64 ((rd_T95 (rd_L8 l0 x10_1) x16_2).f0.f1), .int .i64 0]) ?_ 2 _ rfl; (with_reducible repeat (first | refine blk_drewN ?_ _ | refine blk_drew ?_ | refine blk_alloc ?_ _)); refine blk_put (cs := #[.int .i64 ((rd_T95 (rd_L8 l0 x10_1) x16_2).f0.f0), .int .i64 0, .int .i64 0]) ?_ 1 _ rfl; (with_reducible repeat (first | refine blk_drewN ?_ _ | refine blk_drew ?_ | refine blk_alloc ?_ _)); refine blk_put (cs := #[.int .i64 0, .int .i64 0, .int .i64 0]) ?_ 0 _ rfl; (with_reducible repeat (first | refine blk_drewN ?_ _ | refine blk_drew ?_ | refine blk_alloc ?_ _)); exact BK381.out) hg (Kd.R_ne HO_3.out BK381.out (by decide))); replace HB := Aside0.mk hb; have HO384 := Aside0.mk ho; clear HO_3 ho hb hg hat))
       go_roundg k2
       case measure => have := HK1.out; have := HK2.out; omega
       case rel => exact ⟨(y382), (wrap64 (x16_2 + 1)), zz8, H', ⟨zz16 HK1 HK2⟩, ⟨zz13 HO384⟩, ⟨zz4 GE381⟩⟩
      ·have H' := Aside0.mk H
       clear H
       go_wp2
       go_roundg k2
       case measure => have := HK1.out; have := HK2.out; omega
       case rel => exact ⟨(x3_2), (wrap64 (x10_1 + 1)), zz8, H', ⟨zz16 HK1 HK2⟩, ⟨zz13 HO_3⟩, ⟨zz2⟩⟩
   ·obtain rfl := Option.some.inj H
    go_wp2
    go_ret
    exact ⟨_, zz6, zz13 HO_3, zz2⟩

/-! ### impl_Block_has: function 57 -/
def impl_Block_has.f (a0_0 : Int) (a0_1 : Int) (a1 : Int) : Option (Bool) := (impl_Block_last.f a0_0 a0_1).bind fun t386 => ((impl_in.f a1 a0_0 t386).bind fun t387 => (some t387))
set_option maxHeartbeats 8000000 in
set_option maxRecDepth 100000 in
theorem impl_Block_has.calls (a0_0 : Int) (a0_1 : Int) (a1 : Int) (r : Bool) (w : World) (h : impl_Block_has.f a0_0 a0_1 a1 = some r) :
  Calls Try.prog 57 #[.agg #[.int .i64 a0_0, .int .i64 a0_1], .int .i64 a1] w fun e w' => e = .returned (.bool r) ∧ Below w.heap.size w w' := by
 have hu40 := Try.underlying40
 have HB := Aside0.mk (Below.refl w.heap.size w)
 have H : ((impl_Block_last.f a0_0 a0_1).bind fun t386 => ((impl_in.f a1 a0_0 t386).bind fun t387 => (some t387))) = some r := h
 clear h
 replace H := bd H
 obtain ⟨t386, A3, H⟩ := H
 replace H : ((impl_in.f a1 a0_0 t386).bind fun t387 => (some t387)) = some r := H
 replace H := bd H
 obtain ⟨t387, A4, H⟩ := H
 replace H : (some t387) = some r := H
 obtain rfl := Option.some.inj H
 go_enter Try.func57, Try.ntmps57
 try go_wp2_with (first | (refine be 2 #[.int .i64 a0_0, .int .i64 a0_1] 40 ?_; intro gb385 hg w5 hbox hb; have BK385 := Aside0.mk hbox; have GW385 := Aside0.mk (zz1 : w.heap.size ≤ gb385); have GE385 := Aside0.mk (zz1 : w.heap.size ≤ gb385); replace HB := Aside0.mk (below_step zz2 hb); clear hb hbox hg))
 replace BK385 := Aside0.mk (blk_drew BK385.out)
 replace HB := Aside0.mk (below_drew1 HB.out)
 refine start_ (n := 7) (S := fun w' => w'.cell? ⟨gb385, 0, none⟩ = some (.int .i64 a0_0) ∧ w'.cell? ⟨gb385, 1, none⟩ = some (.int .i64 a0_1)) (ds := []) (bm 7 0) (by kernel_rfl) rfl rfl ⟨(blk_cell BK385.out 0).trans rfl, (blk_cell BK385.out 1).trans rfl⟩ (fun hHeld => ?_)
 generalize w5.drew = w6 at BK385 HB hHeld ⊢
 refine pu 0 5 (bm 7 1) ?_
 refine pu 1 6 (bm 7 3) ?_
 refine tk 2 7 (bm 7 7) ?_
 refine tk 3 8 (bm 7 15) ?_
 refine on 4 (some 9) (bm 7 31) (fun K hK => ?_)
 refine gs Try.func89 #[.agg #[.int .i64 a0_0, .int .i64 a0_1]] ?_
 with_reducible refine (impl_Block_last.calls a0_0 a0_1 t386 _ A3.out).mono ?_
 rintro e w7 ⟨rfl, hb⟩
 refine ⟨_, rfl, ?_⟩
 replace BK385 := Aside0.mk (blk_below (g := gb385) (o := .cells #[.int .i64 a0_0, .int .i64 a0_1] 40 (0, 0)) (zz5 BK385) hb)
 replace HB := Aside0.mk (below_step (zz4 GE385) hb)
 (try clear hb)
 (try clear hb2)
 (try clear hk)
 (try clear hi)
 refine hK.out _ _ ⟨(blk_cell BK385.out 0).trans rfl, (blk_cell BK385.out 1).trans rfl⟩ (fun hHeld => ?_)
 clear hK K
 refine nm 9 ?_
 refine on 5 (some 10) (bm 7 63) (fun K hK => ?_)
 refine gs Try.func83 #[.int .i64 a1, .int .i64 a0_0, .int .i64 t386] ?_
 with_reducible refine (impl_in.calls a1 a0_0 t386 t387 _ A4.out).mono ?_
 rintro e w' ⟨rfl, ⟨nd, rfl⟩⟩
 refine ⟨_, rfl, ?_⟩
 refine hK.out _ _ ⟨(blk_cell BK385.out 0).trans rfl, (blk_cell BK385.out 1).trans rfl⟩ (fun hHeld => ?_)
 clear hK K
 refine nm 10 ?_
 refine pu 6 4 (bm 7 127) ?_
 refine done_ (by kernel_rfl) ?_
 try go_wp2
 go_ret
 exact ⟨zz6, zz4 GE385⟩

/-! ### impl_lead: function 86 -/
def impl_lead.l0 : Nat → Int → List (S95) → Int → Int → Int → Int → Int → Option (Int)
 | 0, _, _, _, _, _, _, _ => none
 | k + 1, x1, x10, x11, x12, x389000, x389001, x389002 => if x12 < x11 then (if 0 ≤ x12 then (if x12 < (x10.length : Int) then ((impl_Block_has.f ((rd_T95 x10 x12).f0.f0) ((rd_T95 x10 x12).f0.f1) x1).bind fun t391 => (if t391 = true then (if ((rd_T95 x10 x12).f0.f1) > x389001 then (impl_lead.l0 k x1 x10 x11 (wrap64 (x12 + 1)) ((rd_T95 x10 x12).f0.f0) ((rd_T95 x10 x12).f0.f1) ((rd_T95 x10 x12).f1)) else (impl_lead.l0 k x1 x10 x11 (wrap64 (x12 + 1)) x389000 x389001 x389002)) else (impl_lead.l0 k x1 x10 x11 (wrap64 (x12 + 1)) x389000 x389001 x389002))) else (none)) else (none)) else (some x389002)
def impl_lead.f (k : Nat) (l0 : List (S95)) (a1 : Int) : Option (Int) := impl_lead.l0 k a1 l0 (l0.length : Int) 0 0 (-1) (-1)
theorem impl_lead.mono_l : ∀ k, (∀ y0 y1 y2 y3 y4 y5 y6, LeO (impl_lead.l0 k y0 y1 y2 y3 y4 y5 y6) (impl_lead.l0 (k + 1) y0 y1 y2 y3 y4 y5 y6))
 | 0 => fun _ _ _ _ _ _ _ r h => by simp [impl_lead.l0] at h
 | k + 1 => by
  have ih0 := impl_lead.mono_l k
  ·intro y0 y1 y2 y3 y4 y5 y6
   unfold impl_lead.l0
   repeat' first
   | (with_reducible exact ih0 _ _ _ _ _ _ _)
   | (with_reducible exact LeO.refl _)
   | (with_reducible exact LeO.none _)
   | (with_reducible refine LeO.ite ?_ ?_)
   | (with_reducible refine LeO.bind ?_ (fun _ => ?_))
   | exact ih0 _ _ _ _ _ _ _
   | exact LeO.none _
   | refine LeO.ite ?_ ?_
   | refine LeO.bind ?_ (fun _ => ?_)
theorem impl_lead.mono : ∀ a0 a1 k, LeO (impl_lead.f k a0 a1) (impl_lead.f (k + 1) a0 a1) := by
 intro a0 a1 k
 have ih0 := impl_lead.mono_l k
 unfold impl_lead.f
 repeat' first
   | (with_reducible exact ih0 _ _ _ _ _ _ _)
   | (with_reducible exact LeO.refl _)
   | (with_reducible exact LeO.none _)
   | (with_reducible refine LeO.ite ?_ ?_)
   | (with_reducible refine LeO.bind ?_ (fun _ => ?_))
   | exact ih0 _ _ _ _ _ _ _
   | exact LeO.none _
   | refine LeO.ite ?_ ?_
   | refine LeO.bind ?_ (fun _ => ?_)
set_option maxHeartbeats 8000000 in
set_option maxRecDepth 100000 in
theorem impl_lead.calls (k : Nat) (A0 : Option Addr) (c0 : Nat) (l0 : List (S95)) (a1 : Int) (r : Int) (w : World) (hr0 : Kd.C k95 w A0 l0.length l0) (hc0 : l0.length ≤ c0) (h : impl_lead.f k l0 a1 = some r) :
  Calls Try.prog 86 #[.slice A0 l0.length c0, .int .i64 a1] w fun e w' => e = .returned (.int .i64 r) ∧ Below w.heap.size w w' := by
 have hu40 := Try.underlying40
 have hu95 := Try.underlying95
 have HR0 := Aside0.mk hr0
 have HC0 := Aside0.mk hc0
 clear hr0 hc0
 have HB := Aside0.mk (Below.refl w.heap.size w)
 have H : (impl_lead.l0 k a1 l0 (l0.length : Int) 0 0 (-1) (-1)) = some r := h
 clear h
 have H' := Aside0.mk H
 clear H
 go_enter Try.func86, Try.ntmps86
 go_wp2_with (first | (refine be 5 #[.int .i64 0, .int .i64 0, .int .i64 0] 95 ?_; intro gb388 hg w3 hbox hb; have BK388 := Aside0.mk hbox; have GW388 := Aside0.mk (zz1 : w.heap.size ≤ gb388); have GE388 := Aside0.mk (zz1 : w.heap.size ≤ gb388); replace HB := Aside0.mk (below_step zz2 hb); clear hb hbox hg; have hcz4_0 : w3.cell? ⟨gb388, 0, none⟩ = some (.int .i64 0) := (blk_cell BK388.out 0).trans rfl; have hcz4_1 : w3.cell? ⟨gb388, 1, none⟩ = some (.int .i64 0) := (blk_cell BK388.out 1).trans rfl; have hcz4_2 : w3.cell? ⟨gb388, 2, none⟩ = some (.int .i64 0) := (blk_cell BK388.out 2).trans rfl; have hfz4_0 := blk_frozen BK388.out 0; have hfz4_1 := blk_frozen BK388.out 1; have hfz4_2 := blk_frozen BK388.out 2))
 go_loopg [12] k (fun kq v12 w' => ∃ (x12_1 : Int) (x389000_1 : Int) (x389001_1 : Int) (x389002_1 : Int), v12 = .int .i64 x12_1 ∧ Aside0 (impl_lead.l0 kq a1 l0 (l0.length : Int) x12_1 x389000_1 x389001_1 x389002_1 = some r) ∧ Aside0 (kq ≤ k) ∧ Aside0 (w'.heap[gb388]? = some (.cells #[.int .i64 x389000_1, .int .i64 x389001_1, .int .i64 x389002_1] 95 (0, 0))) ∧ Aside0 (Below w.heap.size w w'))
 case atStart => exact ⟨(0), (0), ((-1)), ((-1)), zz8, H', ⟨Nat.le_refl _⟩, ⟨by (with_reducible repeat (first | refine blk_drewN ?_ _ | refine blk_drew ?_ | refine blk_alloc ?_ _)); refine blk_put (cs := #[.int .i64 0, .int .i64 (-1), .int .i64 0]) ?_ 2 _ rfl; (with_reducible repeat (first | refine blk_drewN ?_ _ | refine blk_drew ?_ | refine blk_alloc ?_ _)); refine blk_put (cs := #[.int .i64 0, .int .i64 0, .int .i64 0]) ?_ 1 _ rfl; (with_reducible repeat (first | refine blk_drewN ?_ _ | refine blk_drew ?_ | refine blk_alloc ?_ _)); refine blk_put (cs := #[.int .i64 0, .int .i64 0, .int .i64 0]) ?_ 0 _ rfl; (with_reducible repeat (first | refine blk_drewN ?_ _ | refine blk_drew ?_ | refine blk_alloc ?_ _)); exact BK388.out⟩, ⟨zz4 GE388⟩⟩
 case round =>
  clear H'
  try clear p2
  try clear hcz4_0
  try clear hcz4_1
  try clear hcz4_2
  try clear hfz4_0
  try clear hfz4_1
  try clear hfz4_2
  obtain ⟨x12_1, x389000_1, x389001_1, x389002_1, rfl, HA, HK1, BK388, HB⟩ := hrel
  cases gk with
  | zero => exact absurd HA.out (by simp [impl_lead.l0])
  | succ k1 =>
   have H := HA.out
   clear HA
   simp only [impl_lead.l0] at H
   replace H := ic H
   rcases H with ⟨c5b0, H⟩ | ⟨c5b0, H⟩
   ·replace H := gd H
    obtain ⟨c6b0, H⟩ := H
    replace H := gd H
    obtain ⟨c7b0, H⟩ := H
    replace H := bd H
    obtain ⟨t391, A8, H⟩ := H
    replace H : (if t391 = true then (if ((rd_T95 l0 x12_1).f0.f1) > x389001_1 then (impl_lead.l0 k1 a1 l0 (l0.length : Int) (wrap64 (x12_1 + 1)) ((rd_T95 l0 x12_1).f0.f0) ((rd_T95 l0 x12_1).f0.f1) ((rd_T95 l0 x12_1).f1)) else (impl_lead.l0 k1 a1 l0 (l0.length : Int) (wrap64 (x12_1 + 1)) x389000_1 x389001_1 x389002_1)) else (impl_lead.l0 k1 a1 l0 (l0.length : Int) (wrap64 (x12_1 + 1)) x389000_1 x389001_1 x389002_1)) = some r := H
    by_cases c9 : t391 = true
    ·subst c9
     have H1 : (if ((rd_T95 l0 x12_1).f0.f1) > x389001_1 then (impl_lead.l0 k1 a1 l0 (l0.length : Int) (wrap64 (x12_1 + 1)) ((rd_T95 l0 x12_1).f0.f0) ((rd_T95 l0 x12_1).f0.f1) ((rd_T95 l0 x12_1).f1)) else (impl_lead.l0 k1 a1 l0 (l0.length : Int) (wrap64 (x12_1 + 1)) x389000_1 x389001_1 x389002_1)) = some r := by rw [if_pos rfl] at H; exact H
     clear H
     have H := H1
     clear H1
     replace H := ic H
     rcases H with ⟨c10b0, H⟩ | ⟨c10b0, H⟩
     ·have H' := Aside0.mk H
      clear H
      obtain ⟨⟨ad389, e389, hx389_0, hx389_1, hx389_2⟩, p389, q389⟩ := wi (at_T95 HR0.out x12_1)
      cases e389
      replace hx389_0 := (HB.out.cell (World.block_lt_of_cell? w _ hx389_0)).trans hx389_0
      replace hx389_1 := (HB.out.cell (World.block_lt_of_cell? w _ hx389_1)).trans hx389_1
      replace hx389_2 := (HB.out.cell (World.block_lt_of_cell? w _ hx389_2)).trans hx389_2
      go_wp2_with (first | (refine be 7 #[.int .i64 0, .int .i64 0, .int .i64 0] 95 ?_; intro gb390 hg w11 hbox hb; have BK390 := Aside0.mk hbox; have GW390 := Aside0.mk (zz3 GE388 : w.heap.size ≤ gb390); have GE390 := Aside0.mk (zz3 GE388 : w.heap.size ≤ gb390); replace HB := Aside0.mk (below_step (zz4 GE388) hb); have NB388_390 := Aside0.mk (by rw [hg]; exact Nat.ne_of_lt (blk_lt (g := gb388) (o := .cells #[.int .i64 x389000_1, .int .i64 x389001_1, .int .i64 x389002_1] 95 (0, 0)) (zz5 BK388)) : gb388 ≠ gb390); have NB390_388 := Aside0.mk (by rw [hg]; exact Nat.ne_of_gt (blk_lt (g := gb388) (o := .cells #[.int .i64 x389000_1, .int .i64 x389001_1, .int .i64 x389002_1] 95 (0, 0)) (zz5 BK388)) : gb390 ≠ gb388); replace BK388 := Aside0.mk (blk_below (g := gb388) (o := .cells #[.int .i64 x389000_1, .int .i64 x389001_1, .int .i64 x389002_1] 95 (0, 0)) (zz5 BK388) hb); clear hb hbox hg; have hnb12 := NB390_388.out; have hnc12 := NB388_390.out; have hcz13_0 : w11.cell? ⟨gb390, 0, none⟩ = some (.int .i64 0) := (blk_cell BK390.out 0).trans rfl; have hcz13_1 : w11.cell? ⟨gb390, 1, none⟩ = some (.int .i64 0) := (blk_cell BK390.out 1).trans rfl; have hcz13_2 : w11.cell? ⟨gb390, 2, none⟩ = some (.int .i64 0) := (blk_cell BK390.out 2).trans rfl; have hfz13_0 := blk_frozen BK390.out 0; have hfz13_1 := blk_frozen BK390.out 1; have hfz13_2 := blk_frozen BK390.out 2) | (refine gc (some 19) Try.func57 #[.agg #[.int .i64 ((rd_T95 l0 x12_1).f0.f0), .int .i64 ((rd_T95 l0 x12_1).f0.f1)], .int .i64 a1] ?_; (with_reducible refine (impl_Block_has.calls ((rd_T95 l0 x12_1).f0.f0) ((rd_T95 l0 x12_1).f0.f1) a1 true _ A8.out).mono ?_); rintro e w14 ⟨rfl, hb⟩; refine ⟨_, rfl, ?_⟩; replace BK388 := Aside0.mk (blk_below (g := gb388) (o := .cells #[.int .i64 x389000_1, .int .i64 x389001_1, .int .i64 x389002_1] 95 (0, 0)) (zz49 NB388_390 BK388) hb); replace BK390 := Aside0.mk (blk_below (g := gb390) (o := .cells #[.int .i64 ((rd_T95 l0 x12_1).f0.f0), .int .i64 ((rd_T95 l0 x12_1).f0.f1), .int .i64 ((rd_T95 l0 x12_1).f1)] 95 (0, 0)) (by (with_reducible repeat (first | refine blk_drewN ?_ _ | refine blk_drew ?_ | refine blk_alloc ?_ _)); refine blk_put (cs := #[.int .i64 ((rd_T95 l0 x12_1).f0.f0), .int .i64 ((rd_T95 l0 x12_1).f0.f1), .int .i64 0]) ?_ 2 _ rfl; (with_reducible repeat (first | refine blk_drewN ?_ _ | refine blk_drew ?_ | refine blk_alloc ?_ _)); refine blk_put (cs := #[.int .i64 ((rd_T95 l0 x12_1).f0.f0), .int .i64 0, .int .i64 0]) ?_ 1 _ rfl; (with_reducible repeat (first | refine blk_drewN ?_ _ | refine blk_drew ?_ | refine blk_alloc ?_ _)); refine blk_put (cs := #[.int .i64 0, .int .i64 0, .int .i64 0]) ?_ 0 _ rfl; (with_reducible repeat (first | refine blk_drewN ?_ _ | refine blk_drew ?_ | refine blk_alloc ?_ _)); exact BK390.out) hb); replace HB := Aside0.mk (below_step (zz7 GE388 GE390) hb); clear hb; have hcz15_0 : w14.cell? ⟨gb390, 0, none⟩ = some (.int .i64 ((rd_T95 l0 x12_1).f0.f0)) := (blk_cell BK390.out 0).trans rfl; have hcz15_1 : w14.cell? ⟨gb390, 1, none⟩ = some (.int .i64 ((rd_T95 l0 x12_1).f0.f1)) := (blk_cell BK390.out 1).trans rfl; have hcz15_2 : w14.cell? ⟨gb390, 2, none⟩ = some (.int .i64 ((rd_T95 l0 x12_1).f1)) := (blk_cell BK390.out 2).trans rfl; have hfz15_0 := blk_frozen BK390.out 0; have hfz15_1 := blk_frozen BK390.out 1; have hfz15_2 := blk_frozen BK390.out 2; have hcz16_0 : w14.cell? ⟨gb388, 0, none⟩ = some (.int .i64 x389000_1) := (blk_cell BK388.out 0).trans rfl; have hcz16_1 : w14.cell? ⟨gb388, 1, none⟩ = some (.int .i64 x389001_1) := (blk_cell BK388.out 1).trans rfl; have hcz16_2 : w14.cell? ⟨gb388, 2, none⟩ = some (.int .i64 x389002_1) := (blk_cell BK388.out 2).trans rfl; have hfz16_0 := blk_frozen BK388.out 0; have hfz16_1 := blk_frozen BK388.out 1; have hfz16_2 := blk_frozen BK388.out 2))
      go_roundg k1
      case measure => have := HK1.out; omega
      case rel => exact ⟨(wrap64 (x12_1 + 1)), ((rd_T95 l0 x12_1).f0.f0), ((rd_T95 l0 x12_1).f0.f1), ((rd_T95 l0 x12_1).f1), zz8, H', ⟨zz9 HK1⟩, ⟨by (with_reducible repeat (first | refine blk_drewN ?_ _ | refine blk_drew ?_ | refine blk_alloc ?_ _)); refine blk_put (cs := #[.int .i64 ((rd_T95 l0 x12_1).f0.f0), .int .i64 ((rd_T95 l0 x12_1).f0.f1), .int .i64 x389002_1]) ?_ 2 _ rfl; (with_reducible repeat (first | refine blk_drewN ?_ _ | refine blk_drew ?_ | refine blk_alloc ?_ _)); refine blk_put (cs := #[.int .i64 ((rd_T95 l0 x12_1).f0.f0), .int .i64 x389001_1, .int .i64 x389002_1]) ?_ 1 _ rfl; (with_reducible repeat (first | refine blk_drewN ?_ _ | refine blk_drew ?_ | refine blk_alloc ?_ _)); refine blk_put (cs := #[.int .i64 x389000_1, .int .i64 x389001_1, .int .i64 x389002_1]) ?_ 0 _ rfl; (with_reducible repeat (first | refine blk_drewN ?_ _ | refine blk_drew ?_ | refine blk_alloc ?_ _)); exact BK388.out⟩, ⟨zz7 GE388 GE390⟩⟩
     ·have H' := Aside0.mk H
      clear H
      obtain ⟨⟨ad389, e389, hx389_0, hx389_1, hx389_2⟩, p389, q389⟩ := wi (at_T95 HR0.out x12_1)
      cases e389
      replace hx389_0 := (HB.out.cell (World.block_lt_of_cell? w _ hx389_0)).trans hx389_0
      replace hx389_1 := (HB.out.cell (World.block_lt_of_cell? w _ hx389_1)).trans hx389_1
      replace hx389_2 := (HB.out.cell (World.block_lt_of_cell? w _ hx389_2)).trans hx389_2
      go_wp2_with (first | (refine be 7 #[.int .i64 0, .int .i64 0, .int .i64 0] 95 ?_; intro gb390 hg w17 hbox hb; have BK390 := Aside0.mk hbox; have GW390 := Aside0.mk (zz3 GE388 : w.heap.size ≤ gb390); have GE390 := Aside0.mk (zz3 GE388 : w.heap.size ≤ gb390); replace HB := Aside0.mk (below_step (zz4 GE388) hb); have NB388_390 := Aside0.mk (by rw [hg]; exact Nat.ne_of_lt (blk_lt (g := gb388) (o := .cells #[.int .i64 x389000_1, .int .i64 x389001_1, .int .i64 x389002_1] 95 (0, 0)) (zz5 BK388)) : gb388 ≠ gb390); have NB390_388 := Aside0.mk (by rw [hg]; exact Nat.ne_of_gt (blk_lt (g := gb388) (o := .cells #[.int .i64 x389000_1, .int .i64 x389001_1, .int .i64 x389002_1] 95 (0, 0)) (zz5 BK388)) : gb390 ≠ gb388); replace BK388 := Aside0.mk (blk_below (g := gb388) (o := .cells #[.int .i64 x389000_1, .int .i64 x389001_1, .int .i64 x389002_1] 95 (0, 0)) (zz5 BK388) hb); clear hb hbox hg; have hnb18 := NB390_388.out; have hnc18 := NB388_390.out; have hcz19_0 : w17.cell? ⟨gb390, 0, none⟩ = some (.int .i64 0) := (blk_cell BK390.out 0).trans rfl; have hcz19_1 : w17.cell? ⟨gb390, 1, none⟩ = some (.int .i64 0) := (blk_cell BK390.out 1).trans rfl; have hcz19_2 : w17.cell? ⟨gb390, 2, none⟩ = some (.int .i64 0) := (blk_cell BK390.out 2).trans rfl; have hfz19_0 := blk_frozen BK390.out 0; have hfz19_1 := blk_frozen BK390.out 1; have hfz19_2 := blk_frozen BK390.out 2) | (refine gc (some 19) Try.func57 #[.agg #[.int .i64 ((rd_T95 l0 x12_1).f0.f0), .int .i64 ((rd_T95 l0 x12_1).f0.f1)], .int .i64 a1] ?_; (with_reducible refine (impl_Block_has.calls ((rd_T95 l0 x12_1).f0.f0) ((rd_T95 l0 x12_1).f0.f1) a1 true _ A8.out).mono ?_); rintro e w20 ⟨rfl, hb⟩; refine ⟨_, rfl, ?_⟩; replace BK388 := Aside0.mk (blk_below (g := gb388) (o := .cells #[.int .i64 x389000_1, .int .i64 x389001_1, .int .i64 x389002_1] 95 (0, 0)) (zz49 NB388_390 BK388) hb); replace BK390 := Aside0.mk (blk_below (g := gb390) (o := .cells #[.int .i64 ((rd_T95 l0 x12_1).f0.f0), .int .i64 ((rd_T95 l0 x12_1).f0.f1), .int .i64 ((rd_T95 l0 x12_1).f1)] 95 (0, 0)) (by (with_reducible repeat (first | refine blk_drewN ?_ _ | refine blk_drew ?_ | refine blk_alloc ?_ _)); refine blk_put (cs := #[.int .i64 ((rd_T95 l0 x12_1).f0.f0), .int .i64 ((rd_T95 l0 x12_1).f0.f1), .int .i64 0]) ?_ 2 _ rfl; (with_reducible repeat (first | refine blk_drewN ?_ _ | refine blk_drew ?_ | refine blk_alloc ?_ _)); refine blk_put (cs := #[.int .i64 ((rd_T95 l0 x12_1).f0.f0), .int .i64 0, .int .i64 0]) ?_ 1 _ rfl; (with_reducible repeat (first | refine blk_drewN ?_ _ | refine blk_drew ?_ | refine blk_alloc ?_ _)); refine blk_put (cs := #[.int .i64 0, .int .i64 0, .int .i64 0]) ?_ 0 _ rfl; (with_reducible repeat (first | refine blk_drewN ?_ _ | refine blk_drew ?_ | refine blk_alloc ?_ _)); exact BK390.out) hb); replace HB := Aside0.mk (below_step (zz7 GE388 GE390) hb); clear hb; have hcz21_0 : w20.cell? ⟨gb390, 0, none⟩ = some (.int .i64 ((rd_T95 l0 x12_1).f0.f0)) := (blk_cell BK390.out 0).trans rfl; have hcz21_1 : w20.cell? ⟨gb390, 1, none⟩ = some (.int .i64 ((rd_T95 l0 x12_1).f0.f1)) := (blk_cell BK390.out 1).trans rfl; have hcz21_2 : w20.cell? ⟨gb390, 2, none⟩ = some (.int .i64 ((rd_T95 l0 x12_1).f1)) := (blk_cell BK390.out 2).trans rfl; have hfz21_0 := blk_frozen BK390.out 0; have hfz21_1 := blk_frozen BK390.out 1; have hfz21_2 := blk_frozen BK390.out 2; have hcz22_0 : w20.cell? ⟨gb388, 0, none⟩ = some (.int .i64 x389000_1) := (blk_cell BK388.out 0).trans rfl; have hcz22_1 : w20.cell? ⟨gb388, 1, none⟩ = some (.int .i64 x389001_1) := (blk_cell BK388.out 1).trans rfl; have hcz22_2 : w20.cell? ⟨gb388, 2, none⟩ = some (.int .i64 x389002_1) := (blk_cell BK388.out 2).trans rfl; have hfz22_0 := blk_frozen BK388.out 0; have hfz22_1 := blk_frozen BK388.out 1; have hfz22_2 := blk_frozen BK388.out 2))
      go_roundg k1
      case measure => have := HK1.out; omega
      case rel => exact ⟨(wrap64 (x12_1 + 1)), (x389000_1), (x389001_1), (x389002_1), zz8, H', ⟨zz9 HK1⟩, ⟨zz5 BK388⟩, ⟨zz7 GE388 GE390⟩⟩
    ·replace c9 := Bool.eq_false_iff.mpr c9
     subst c9
     have H1 : (impl_lead.l0 k1 a1 l0 (l0.length : Int) (wrap64 (x12_1 + 1)) x389000_1 x389001_1 x389002_1) = some r := by rw [if_neg (show ¬ (false = true) by decide)] at H; exact H
     clear H
     have H := H1
     clear H1
     have H' := Aside0.mk H
     clear H
     obtain ⟨⟨ad389, e389, hx389_0, hx389_1, hx389_2⟩, p389, q389⟩ := wi (at_T95 HR0.out x12_1)
     cases e389
     replace hx389_0 := (HB.out.cell (World.block_lt_of_cell? w _ hx389_0)).trans hx389_0
     replace hx389_1 := (HB.out.cell (World.block_lt_of_cell? w _ hx389_1)).trans hx389_1
     replace hx389_2 := (HB.out.cell (World.block_lt_of_cell? w _ hx389_2)).trans hx389_2
     go_wp2_with (first | (refine be 7 #[.int .i64 0, .int .i64 0, .int .i64 0] 95 ?_; intro gb390 hg w23 hbox hb; have BK390 := Aside0.mk hbox; have GW390 := Aside0.mk (zz3 GE388 : w.heap.size ≤ gb390); have GE390 := Aside0.mk (zz3 GE388 : w.heap.size ≤ gb390); replace HB := Aside0.mk (below_step (zz4 GE388) hb); have NB388_390 := Aside0.mk (by rw [hg]; exact Nat.ne_of_lt (blk_lt (g := gb388) (o := .cells #[.int .i64 x389000_1, .int .i64 x389001_1, .int .i64 x389002_1] 95 (0, 0)) (zz5 BK388)) : gb388 ≠ gb390); have NB390_388 := Aside0.mk (by rw [hg]; exact Nat.ne_of_gt (blk_lt (g := gb388) (o := .cells #[.int .i64 x389000_1, .int .i64 x389001_1, .int .i64 x389002_1] 95 (0, 0)) (zz5 BK388)) : gb390 ≠ gb388); replace BK388 := Aside0.mk (blk_below (g := gb388) (o := .cells #[.int .i64 x389000_1, .int .i64 x389001_1, .int .i64 x389002_1] 95 (0, 0)) (zz5 BK388) hb); clear hb hbox hg; have hnb24 := NB390_388.out; have hnc24 := NB388_390.out; have hcz25_0 : w23.cell? ⟨gb390, 0, none⟩ = some (.int .i64 0) := (blk_cell BK390.out 0).trans rfl; have hcz25_1 : w23.cell? ⟨gb390, 1, none⟩ = some (.int .i64 0) := (blk_cell BK390.out 1).trans rfl; have hcz25_2 : w23.cell? ⟨gb390, 2, none⟩ = some (.int .i64 0) := (blk_cell BK390.out 2).trans rfl; have hfz25_0 := blk_frozen BK390.out 0; have hfz25_1 := blk_frozen BK390.out 1; have hfz25_2 := blk_frozen BK390.out 2) | (refine gc (some 19) Try.func57 #[.agg #[.int .i64 ((rd_T95 l0 x12_1).f0.f0), .int .i64 ((rd_T95 l0 x12_1).f0.f1)], .int .i64 a1] ?_; (with_reducible refine (impl_Block_has.calls ((rd_T95 l0 x12_1).f0.f0) ((rd_T95 l0 x12_1).f0.f1) a1 false _ A8.out).mono ?_); rintro e w26 ⟨rfl, hb⟩; refine ⟨_, rfl, ?_⟩; replace BK388 := Aside0.mk (blk_below (g := gb388) (o := .cells #[.int .i64 x389000_1, .int .i64 x389001_1, .int .i64 x389002_1] 95 (0, 0)) (zz49 NB388_390 BK388) hb); replace BK390 := Aside0.mk (blk_below (g := gb390) (o := .cells #[.int .i64 ((rd_T95 l0 x12_1).f0.f0), .int .i64 ((rd_T95 l0 x12_1).f0.f1), .int .i64 ((rd_T95 l0 x12_1).f1)] 95 (0, 0)) (by (with_reducible repeat (first | refine blk_drewN ?_ _ | refine blk_drew ?_ | refine blk_alloc ?_ _)); refine blk_put (cs := #[.int .i64 ((rd_T95 l0 x12_1).f0.f0), .int .i64 ((rd_T95 l0 x12_1).f0.f1), .int .i64 0]) ?_ 2 _ rfl; (with_reducible repeat (first | refine blk_drewN ?_ _ | refine blk_drew ?_ | refine blk_alloc ?_ _)); refine blk_put (cs := #[.int .i64 ((rd_T95 l0 x12_1).f0.f0), .int .i64 0, .int .i64 0]) ?_ 1 _ rfl; (with_reducible repeat (first | refine blk_drewN ?_ _ | refine blk_drew ?_ | refine blk_alloc ?_ _)); refine blk_put (cs := #[.int .i64 0, .int .i64 0, .int .i64 0]) ?_ 0 _ rfl; (with_reducible repeat (first | refine blk_drewN ?_ _ | refine blk_drew ?_ | refine blk_alloc ?_ _)); exact BK390.out) hb); replace HB := Aside0.mk (below_step (zz7 GE388 GE390) hb); clear hb))
     go_roundg k1
     case measure => have := HK1.out; omega
     case rel => exact ⟨(wrap64 (x12_1 + 1)), (x389000_1), (x389001_1), (x389002_1), zz8, H', ⟨zz9 HK1⟩, ⟨zz5 BK388⟩, ⟨zz7 GE388 GE390⟩⟩
   ·obtain rfl := Option.some.inj H
    have hcz27_0 : wr.cell? ⟨gb388, 0, none⟩ = some (.int .i64 x389000_1) := (blk_cell BK388.out 0).trans rfl
    have hcz27_1 : wr.cell? ⟨gb388, 1, none⟩ = some (.int .i64 x389001_1) := (blk_cell BK388.out 1).trans rfl
    have hcz27_2 : wr.cell? ⟨gb388, 2, none⟩ = some (.int .i64 x389002_1) := (blk_cell BK388.out 2).trans rfl
    have hfz27_0 := blk_frozen BK388.out 0
    have hfz27_1 := blk_frozen BK388.out 1
    have hfz27_2 := blk_frozen BK388.out 2
    go_wp2
    go_ret
    exact ⟨zz6, zz4 GE388⟩

end Go.Proofs.Ythkjkmgbdahggaa.PW
