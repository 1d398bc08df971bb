/- A text printed by this session's wip/myprint.py over the kit's print: contracts of functions of the given program, each at what its Lean function says. -/
import Derived.Test.YthkjkmgbdahggaaPLx0
import Derived.Test.YthkjkmgbdahggaaPLx9
import Derived.Test.YthkjkmgbdahggaaPLx10
import Derived.Test.YthkjkmgbdahggaaPLx11
import Derived.Test.YthkjkmgbdahggaaPLx13
namespace Go.Proofs.Ythkjkmgbdahggaa.PL
open Go.RowKit Go.Proofs.YthkjkmgbdahggaaW.PrintWords Go.Proofs.YthkjkmgbdahggaaW.PrintLast Go.Proofs.YthkjkmgbdahggaaW.PrintMore Go.Proofs.Ythkjkmgbdahggaa.Sq
attribute [local go_sem] max2_int min2_int max_two min_two max_three min_three max_four min_four   -- for this text's walks alone
set_option linter.unusedVariables false
set_option linter.unusedSimpArgs false
mutual
def spec_l2Both.l0 : Nat → List (S72) → List (S72) → List (S72) → Int → Option ((List (S72)))
 | 0, _, _, _, _ => none
 | k + 1, x0, x1, x5, x6 => if x6 < (x0.length : Int) then (spec_l2Both.l1 k x0 x1 x5 x6 0) else (some x5)
def spec_l2Both.l1 : Nat → List (S72) → List (S72) → List (S72) → Int → Int → Option ((List (S72)))
 | 0, _, _, _, _, _ => none
 | k + 1, x0, x1, x5, x6, x7 => if x7 < (x1.length : Int) then (if 0 ≤ x6 then (if x6 < (x0.length : Int) then (if 0 ≤ x7 then (if ((rd_T72 x1 x7).f0) > ((rd_T72 x0 x6).f0) then (spec_l2Both.j2 k x0 x1 x5 x6 x7 ((rd_T72 x1 x7).f0) ((rd_T72 x0 x6).f1)) else (spec_l2Both.j2 k x0 x1 x5 x6 x7 ((rd_T72 x0 x6).f0) ((rd_T72 x0 x6).f1))) else (none)) else (none)) else (none)) else (spec_l2Both.l0 k x0 x1 x5 (wrap64 (x6 + 1)))
def spec_l2Both.j2 : Nat → List (S72) → List (S72) → List (S72) → Int → Int → Int → Int → Option ((List (S72)))
 | 0, _, _, _, _, _, _, _ => none
 | k + 1, x0, x1, x5, x6, x7, x498000, x498001 => if 0 ≤ x7 then (if x7 < (x1.length : Int) then (if ((rd_T72 x1 x7).f1) < x498001 then (if x498000 ≤ ((rd_T72 x1 x7).f1) then (if x5.length < 8796093022208 then (spec_l2Both.l1 k x0 x1 (x5 ++ [(⟨x498000, (rd_T72 x1 x7).f1⟩ : S72)]) x6 (wrap64 (x7 + 1))) else (none)) else (spec_l2Both.l1 k x0 x1 x5 x6 (wrap64 (x7 + 1)))) else (if x498000 ≤ x498001 then (if x5.length < 8796093022208 then (spec_l2Both.l1 k x0 x1 (x5 ++ [(⟨x498000, x498001⟩ : S72)]) x6 (wrap64 (x7 + 1))) else (none)) else (spec_l2Both.l1 k x0 x1 x5 x6 (wrap64 (x7 + 1))))) else (none)) else (none)
end
def spec_l2Both.f (k : Nat) (l0 : List (S72)) (l1 : List (S72)) : Option ((List (S72))) := spec_l2Both.l0 k l0 l1 (([] : List (S72))) 0
set_option maxHeartbeats 8000000 in
set_option maxRecDepth 100000 in
theorem spec_l2Both.calls (k : Nat) (A0 : Option Addr) (c0 : Nat) (l0 : List (S72)) (A1 : Option Addr) (c1 : Nat) (l1 : List (S72)) (r : List (S72)) (w : World) (hr0 : Kd.C k72 w A0 l0.length l0) (hc0 : l0.length ≤ c0) (hr1 : Kd.C k72 w A1 l1.length l1) (hc1 : l1.length ≤ c1) (h : spec_l2Both.f k l0 l1 = some r) :
  Calls Try.prog 77 #[.slice A0 l0.length c0, .slice A1 l1.length c1] w fun e w' => ∃ v0_ : Value, e = .returned (v0_) ∧ Kd.R k72 72 w' w.heap.size (fun _ => True) v0_ r ∧ Below w.heap.size w w' := by
 have hu72 := Try.underlying72
 have HR0 := Aside0.mk hr0
 have HC0 := Aside0.mk hc0
 clear hr0 hc0
 have HR1 := Aside0.mk hr1
 have HC1 := Aside0.mk hc1
 clear hr1 hc1
 have HB := Aside0.mk (Below.refl w.heap.size w)
 have H : (spec_l2Both.l0 k l0 l1 (([] : List (S72))) 0) = some r := h
 clear h
 obtain ⟨y493, hy493⟩ : ∃ y_ : List (S72), y_ = (([] : List (S72))) := ⟨_, rfl⟩
 replace H : (spec_l2Both.l0 k l0 l1 y493 0) = some r := by first | (rw [hy493]; with_reducible exact H) | (have H2_ := (Option.bind_some _ _).symm.trans H; rw [hy493]; with_reducible exact H2_) | (have H2_ := (Option.bind_some _ _).symm.trans H; with_reducible exact H2_) | with_reducible exact H | (rw [hy493]; exact H) | exact H
 have Ny493 := Aside0.mk hy493
 clear hy493
 have H' := Aside0.mk H
 clear H
 go_enter Try.func77, Try.ntmps77
 go_wp2_with (first | (refine gt 9 ?_; refine rl k72 72 9 ([] : List (S72)) [] ?hp ?_; (case hp => exact zz34); intro v494 w3 ho4 hb hg_ hnew_; clear hg_ hnew_; (first | rw [← Ny493.out] at ho4 | (simp only [Int.reduceToNat] at ho4; rw [← Ny493.out] at ho4)); have HO495 := Aside0.mk (Kd.R_lower ho4 (below_size zz5)); replace HB := Aside0.mk (below_step zz5 hb); clear hb ho4))
 repeat (go_quiet (first | (refine gt 9 ?_; refine rl k72 72 9 ([] : List (S72)) [] ?hp ?_; (case hp => exact zz34); intro v494 w3 ho4 hb hg_ hnew_; clear hg_ hnew_; (first | rw [← Ny493.out] at ho4 | (simp only [Int.reduceToNat] at ho4; rw [← Ny493.out] at ho4)); have HO495 := Aside0.mk (Kd.R_lower ho4 (below_size zz5)); replace HB := Aside0.mk (below_step zz5 hb); clear hb ho4)); try go_wp2_with (first | (refine gt 9 ?_; refine rl k72 72 9 ([] : List (S72)) [] ?hp ?_; (case hp => exact zz34); intro v494 w3 ho4 hb hg_ hnew_; clear hg_ hnew_; (first | rw [← Ny493.out] at ho4 | (simp only [Int.reduceToNat] at ho4; rw [← Ny493.out] at ho4)); have HO495 := Aside0.mk (Kd.R_lower ho4 (below_size zz5)); replace HB := Aside0.mk (below_step zz5 hb); clear hb ho4)))
 go_loopg [5, 6] k (fun kq v5 v6 w' => ∃ (x5_1 : List (S72)) (x6_1 : Int), v6 = .int .i64 x6_1 ∧ Aside0 (spec_l2Both.l0 kq l0 l1 x5_1 x6_1 = some r) ∧ Aside0 (kq ≤ k) ∧ Aside0 (Kd.R k72 72 w' w.heap.size (fun _ => True) v5 x5_1) ∧ Aside0 (Below w.heap.size w w'))
 case atStart => exact ⟨(y493), (0), zz1, H', ⟨Nat.le_refl _⟩, ⟨zz12 HO495⟩, ⟨zz5⟩⟩
 case round =>
  clear H'
  try clear c1
  try clear p2
  obtain ⟨x5_1, x6_1, rfl, HA, HK1, HO_5, HB⟩ := hrel
  cases gk with
  | zero => exact absurd HA.out (by simp [spec_l2Both.l0])
  | succ k1 =>
   have H := HA.out
   clear HA
   simp only [spec_l2Both.l0] at H
   replace H := ic H
   rcases H with ⟨c5b0, H⟩ | ⟨c5b0, H⟩
   ·have H' := Aside0.mk H
    clear H
    go_wp2
    repeat (go_quiet (fail); try go_wp2)
    go_loopg [5, 7] k1 (fun kq v5 v7 w' => ∃ (x5_2 : List (S72)) (x7_2 : Int), v7 = .int .i64 x7_2 ∧ Aside0 (spec_l2Both.l1 kq l0 l1 x5_2 x6_1 x7_2 = some r) ∧ Aside0 (kq ≤ k1) ∧ Aside0 (Kd.R k72 72 w' w.heap.size (fun _ => True) v5 x5_2) ∧ Aside0 (Below w.heap.size w w'))
    case atStart => exact ⟨(x5_1), (0), zz1, H', ⟨Nat.le_refl _⟩, ⟨zz12 HO_5⟩, ⟨zz5⟩⟩
    case round =>
     clear H'
     try clear c1
     try clear p2
     try clear c5
     try clear c5b0
     try clear p2
     obtain ⟨x5_2, x7_2, rfl, HA, HK2, HO_5, HB⟩ := hrel
     cases gk with
     | zero => exact absurd HA.out (by simp [spec_l2Both.l1])
     | succ k2 =>
      have H := HA.out
      clear HA
      simp only [spec_l2Both.l1] at H
      replace H := ic H
      rcases H with ⟨c6b0, H⟩ | ⟨c6b0, H⟩
      ·replace H := gd H
       obtain ⟨c7b0, H⟩ := H
       replace H := gd H
       obtain ⟨c8b0, H⟩ := H
       replace H := gd H
       obtain ⟨c9b0, H⟩ := H
       have HC10 := Aside0.mk H
       clear H
       obtain ⟨⟨ad496, e496, hx496_0, hx496_1⟩, p496, q496⟩ := wi (at_T72 HR0.out x6_1)
       cases e496
       replace hx496_0 := (HB.out.cell (World.block_lt_of_cell? w _ hx496_0)).trans hx496_0
       replace hx496_1 := (HB.out.cell (World.block_lt_of_cell? w _ hx496_1)).trans hx496_1
       go_upto_if 33 with (first | (refine be 8 #[.int .i64 0, .int .i64 0] 72 ?_; intro gb497 hg w11 hbox hb; replace HO_5 := Aside0.mk (Kd.R_below (Kd.R_elderB (zz12 HO_5) gb497 (Nat.le_of_eq hg.symm)) hb); have BK497 := Aside0.mk hbox; have GW497 := Aside0.mk (zz4 : w.heap.size ≤ gb497); have GE497 := Aside0.mk (zz4 : w.heap.size ≤ gb497); replace HB := Aside0.mk (below_step zz5 hb); clear hb hbox hg; have hcz12_0 : w11.cell? ⟨gb497, 0, none⟩ = some (.int .i64 0) := (blk_cell BK497.out 0).trans rfl; have hcz12_1 : w11.cell? ⟨gb497, 1, none⟩ = some (.int .i64 0) := (blk_cell BK497.out 1).trans rfl; have hfz12_0 := blk_frozen BK497.out 0; have hfz12_1 := blk_frozen BK497.out 1; have p498 : 0 ≤ (x7_2 : Int) := of_decide_eq_true zz10; have q498 : x7_2 < (l1.length : Int) := of_decide_eq_true zz10; obtain ⟨ad498, e498, hx498_0, hx498_1⟩ := at_T72 HR1.out x7_2 p498 q498; cases e498; have hn498_0 : ad498.block ≠ gb497 := Nat.ne_of_lt (Nat.lt_of_lt_of_le (by have := World.block_lt_of_cell? _ _ hx498_0; first | rwa [add_block] at this | exact this) GW497.out); have hn498_1 : ad498.block ≠ gb497 := Nat.ne_of_lt (Nat.lt_of_lt_of_le (by have := World.block_lt_of_cell? _ _ hx498_0; first | rwa [add_block] at this | exact this) GW497.out); replace hx498_0 := (HB.out.cell (World.block_lt_of_cell? w _ hx498_0)).trans hx498_0; replace hx498_1 := (HB.out.cell (World.block_lt_of_cell? w _ hx498_1)).trans hx498_1; replace hx498_0 := (cell_far (p := ⟨gb497, 0, none⟩) (by first | (rw [add_block]; exact hn498_0) | (show (Addr.add _ _).block ≠ _; rw [add_block]; exact hn498_0) | exact hn498_0) (.int .i64 ((rd_T72 l0 x6_1).f0))).trans hx498_0; replace hx498_1 := (cell_far (p := ⟨gb497, 0, none⟩) (by first | (rw [add_block]; exact hn498_0) | (show (Addr.add _ _).block ≠ _; rw [add_block]; exact hn498_0) | exact hn498_0) (.int .i64 ((rd_T72 l0 x6_1).f0))).trans hx498_1; replace hx498_0 := (cell_far (p := ⟨gb497, 1, none⟩) (by first | (rw [add_block]; exact hn498_1) | (show (Addr.add _ _).block ≠ _; rw [add_block]; exact hn498_1) | exact hn498_1) (.int .i64 ((rd_T72 l0 x6_1).f1))).trans hx498_0; replace hx498_1 := (cell_far (p := ⟨gb497, 1, none⟩) (by first | (rw [add_block]; exact hn498_1) | (show (Addr.add _ _).block ≠ _; rw [add_block]; exact hn498_1) | exact hn498_1) (.int .i64 ((rd_T72 l0 x6_1).f1))).trans hx498_1; (try have hy498_0 := fun (n_ : Nat) => (show ((((w11.drewN n_).setCell ⟨gb497, 0, none⟩ (.int .i64 ((rd_T72 l0 x6_1).f0))).setCell ⟨gb497, 1, none⟩ (.int .i64 ((rd_T72 l0 x6_1).f1)))).cell? _ = some _ from hx498_0)); (try have hy498_1 := fun (n_ : Nat) => (show ((((w11.drewN n_).setCell ⟨gb497, 0, none⟩ (.int .i64 ((rd_T72 l0 x6_1).f0))).setCell ⟨gb497, 1, none⟩ (.int .i64 ((rd_T72 l0 x6_1).f1)))).cell? _ = some _ from hx498_1)); clear hn498_0 hn498_1; replace p498 := eq_true p498; replace q498 := eq_true q498))
       repeat (go_quiet (first | (refine be 8 #[.int .i64 0, .int .i64 0] 72 ?_; intro gb497 hg w11 hbox hb; replace HO_5 := Aside0.mk (Kd.R_below (Kd.R_elderB (zz12 HO_5) gb497 (Nat.le_of_eq hg.symm)) hb); have BK497 := Aside0.mk hbox; have GW497 := Aside0.mk (zz4 : w.heap.size ≤ gb497); have GE497 := Aside0.mk (zz4 : w.heap.size ≤ gb497); replace HB := Aside0.mk (below_step zz5 hb); clear hb hbox hg; have hcz12_0 : w11.cell? ⟨gb497, 0, none⟩ = some (.int .i64 0) := (blk_cell BK497.out 0).trans rfl; have hcz12_1 : w11.cell? ⟨gb497, 1, none⟩ = some (.int .i64 0) := (blk_cell BK497.out 1).trans rfl; have hfz12_0 := blk_frozen BK497.out 0; have hfz12_1 := blk_frozen BK497.out 1; have p498 : 0 ≤ (x7_2 : Int) := of_decide_eq_true zz10; have q498 : x7_2 < (l1.length : Int) := of_decide_eq_true zz10; obtain ⟨ad498, e498, hx498_0, hx498_1⟩ := at_T72 HR1.out x7_2 p498 q498; cases e498; have hn498_0 : ad498.block ≠ gb497 := Nat.ne_of_lt (Nat.lt_of_lt_of_le (by have := World.block_lt_of_cell? _ _ hx498_0; first | rwa [add_block] at this | exact this) GW497.out); have hn498_1 : ad498.block ≠ gb497 := Nat.ne_of_lt (Nat.lt_of_lt_of_le (by have := World.block_lt_of_cell? _ _ hx498_0; first | rwa [add_block] at this | exact this) GW497.out); replace hx498_0 := (HB.out.cell (World.block_lt_of_cell? w _ hx498_0)).trans hx498_0; replace hx498_1 := (HB.out.cell (World.block_lt_of_cell? w _ hx498_1)).trans hx498_1; replace hx498_0 := (cell_far (p := ⟨gb497, 0, none⟩) (by first | (rw [add_block]; exact hn498_0) | (show (Addr.add _ _).block ≠ _; rw [add_block]; exact hn498_0) | exact hn498_0) (.int .i64 ((rd_T72 l0 x6_1).f0))).trans hx498_0; replace hx498_1 := (cell_far (p := ⟨gb497, 0, none⟩) (by first | (rw [add_block]; exact hn498_0) | (show (Addr.add _ _).block ≠ _; rw [add_block]; exact hn498_0) | exact hn498_0) (.int .i64 ((rd_T72 l0 x6_1).f0))).trans hx498_1; replace hx498_0 := (cell_far (p := ⟨gb497, 1, none⟩) (by first | (rw [add_block]; exact hn498_1) | (show (Addr.add _ _).block ≠ _; rw [add_block]; exact hn498_1) | exact hn498_1) (.int .i64 ((rd_T72 l0 x6_1).f1))).trans hx498_0; replace hx498_1 := (cell_far (p := ⟨gb497, 1, none⟩) (by first | (rw [add_block]; exact hn498_1) | (show (Addr.add _ _).block ≠ _; rw [add_block]; exact hn498_1) | exact hn498_1) (.int .i64 ((rd_T72 l0 x6_1).f1))).trans hx498_1; (try have hy498_0 := fun (n_ : Nat) => (show ((((w11.drewN n_).setCell ⟨gb497, 0, none⟩ (.int .i64 ((rd_T72 l0 x6_1).f0))).setCell ⟨gb497, 1, none⟩ (.int .i64 ((rd_T72 l0 x6_1).f1)))).cell? _ = some _ from hx498_0)); (try have hy498_1 := fun (n_ : Nat) => (show ((((w11.drewN n_).setCell ⟨gb497, 0, none⟩ (.int .i64 ((rd_T72 l0 x6_1).f0))).setCell ⟨gb497, 1, none⟩ (.int .i64 ((rd_T72 l0 x6_1).f1)))).cell? _ = some _ from hx498_1)); clear hn498_0 hn498_1; replace p498 := eq_true p498; replace q498 := eq_true q498)); go_upto_if 33 with (first | (refine be 8 #[.int .i64 0, .int .i64 0] 72 ?_; intro gb497 hg w11 hbox hb; replace HO_5 := Aside0.mk (Kd.R_below (Kd.R_elderB (zz12 HO_5) gb497 (Nat.le_of_eq hg.symm)) hb); have BK497 := Aside0.mk hbox; have GW497 := Aside0.mk (zz4 : w.heap.size ≤ gb497); have GE497 := Aside0.mk (zz4 : w.heap.size ≤ gb497); replace HB := Aside0.mk (below_step zz5 hb); clear hb hbox hg; have hcz12_0 : w11.cell? ⟨gb497, 0, none⟩ = some (.int .i64 0) := (blk_cell BK497.out 0).trans rfl; have hcz12_1 : w11.cell? ⟨gb497, 1, none⟩ = some (.int .i64 0) := (blk_cell BK497.out 1).trans rfl; have hfz12_0 := blk_frozen BK497.out 0; have hfz12_1 := blk_frozen BK497.out 1; have p498 : 0 ≤ (x7_2 : Int) := of_decide_eq_true zz10; have q498 : x7_2 < (l1.length : Int) := of_decide_eq_true zz10; obtain ⟨ad498, e498, hx498_0, hx498_1⟩ := at_T72 HR1.out x7_2 p498 q498; cases e498; have hn498_0 : ad498.block ≠ gb497 := Nat.ne_of_lt (Nat.lt_of_lt_of_le (by have := World.block_lt_of_cell? _ _ hx498_0; first | rwa [add_block] at this | exact this) GW497.out); have hn498_1 : ad498.block ≠ gb497 := Nat.ne_of_lt (Nat.lt_of_lt_of_le (by have := World.block_lt_of_cell? _ _ hx498_0; first | rwa [add_block] at this | exact this) GW497.out); replace hx498_0 := (HB.out.cell (World.block_lt_of_cell? w _ hx498_0)).trans hx498_0; replace hx498_1 := (HB.out.cell (World.block_lt_of_cell? w _ hx498_1)).trans hx498_1; replace hx498_0 := (cell_far (p := ⟨gb497, 0, none⟩) (by first | (rw [add_block]; exact hn498_0) | (show (Addr.add _ _).block ≠ _; rw [add_block]; exact hn498_0) | exact hn498_0) (.int .i64 ((rd_T72 l0 x6_1).f0))).trans hx498_0; replace hx498_1 := (cell_far (p := ⟨gb497, 0, none⟩) (by first | (rw [add_block]; exact hn498_0) | (show (Addr.add _ _).block ≠ _; rw [add_block]; exact hn498_0) | exact hn498_0) (.int .i64 ((rd_T72 l0 x6_1).f0))).trans hx498_1; replace hx498_0 := (cell_far (p := ⟨gb497, 1, none⟩) (by first | (rw [add_block]; exact hn498_1) | (show (Addr.add _ _).block ≠ _; rw [add_block]; exact hn498_1) | exact hn498_1) (.int .i64 ((rd_T72 l0 x6_1).f1))).trans hx498_0; replace hx498_1 := (cell_far (p := ⟨gb497, 1, none⟩) (by first | (rw [add_block]; exact hn498_1) | (show (Addr.add _ _).block ≠ _; rw [add_block]; exact hn498_1) | exact hn498_1) (.int .i64 ((rd_T72 l0 x6_1).f1))).trans hx498_1; (try have hy498_0 := fun (n_ : Nat) => (show ((((w11.drewN n_).setCell ⟨gb497, 0, none⟩ (.int .i64 ((rd_T72 l0 x6_1).f0))).setCell ⟨gb497, 1, none⟩ (.int .i64 ((rd_T72 l0 x6_1).f1)))).cell? _ = some _ from hx498_0)); (try have hy498_1 := fun (n_ : Nat) => (show ((((w11.drewN n_).setCell ⟨gb497, 0, none⟩ (.int .i64 ((rd_T72 l0 x6_1).f0))).setCell ⟨gb497, 1, none⟩ (.int .i64 ((rd_T72 l0 x6_1).f1)))).cell? _ = some _ from hx498_1)); clear hn498_0 hn498_1; replace p498 := eq_true p498; replace q498 := eq_true q498)))
       (try simp only [Act.put, List.setIfInBounds_toArray, List.set_cons_zero, List.set_cons_succ])
       go_cut [] (fun wc => ∃ (kq : Nat) (x498000_9 : Int), Aside0 (spec_l2Both.j2 kq l0 l1 x5_2 x6_1 x7_2 x498000_9 ((rd_T72 l0 x6_1).f1) = some r) ∧ Aside0 (kq ≤ k2) ∧ Aside0 (Kd.R k72 72 wc w.heap.size (fun k_ => k_ ≠ gb497) u5 x5_2) ∧ Aside0 (wc.heap[gb497]? = some (.cells #[.int .i64 x498000_9, .int .i64 ((rd_T72 l0 x6_1).f1)] 72 (0, 0))) ∧ Aside0 (Below w.heap.size w wc))
       case first =>
        have H := HC10.out
        clear HC10
        replace H := ic H
        rcases H with ⟨c13b0, H⟩ | ⟨c13b0, H⟩
        ·(first | rw [c13b0] | (simp only [i64_w, i32_w]; rw [c13b0]) | skip)
         have H' := Aside0.mk H
         clear H
         have p499 : 0 ≤ (x7_2 : Int) := da
         have q499 : x7_2 < (l1.length : Int) := da
         obtain ⟨ad499, e499, hx499_0, hx499_1⟩ := at_T72 HR1.out x7_2 p499 q499
         obtain rfl : ad498 = ad499 := (by injection e499)
         have hn499_0 : ad498.block ≠ gb497 := Nat.ne_of_lt (Nat.lt_of_lt_of_le (by have := World.block_lt_of_cell? _ _ hx499_0; first | rwa [add_block] at this | exact this) GW497.out)
         have hn499_1 : ad498.block ≠ gb497 := Nat.ne_of_lt (Nat.lt_of_lt_of_le (by have := World.block_lt_of_cell? _ _ hx499_0; first | rwa [add_block] at this | exact this) GW497.out)
         replace hx499_0 := (HB.out.cell (World.block_lt_of_cell? w _ hx499_0)).trans hx499_0
         replace hx499_1 := (HB.out.cell (World.block_lt_of_cell? w _ hx499_1)).trans hx499_1
         replace hx499_0 := (cell_far (p := ⟨gb497, 0, none⟩) (by first | (rw [add_block]; exact hn499_0) | (show (Addr.add _ _).block ≠ _; rw [add_block]; exact hn499_0) | exact hn499_0) (.int .i64 ((rd_T72 l0 x6_1).f0))).trans hx499_0
         replace hx499_1 := (cell_far (p := ⟨gb497, 0, none⟩) (by first | (rw [add_block]; exact hn499_0) | (show (Addr.add _ _).block ≠ _; rw [add_block]; exact hn499_0) | exact hn499_0) (.int .i64 ((rd_T72 l0 x6_1).f0))).trans hx499_1
         replace hx499_0 := (cell_far (p := ⟨gb497, 1, none⟩) (by first | (rw [add_block]; exact hn499_1) | (show (Addr.add _ _).block ≠ _; rw [add_block]; exact hn499_1) | exact hn499_1) (.int .i64 ((rd_T72 l0 x6_1).f1))).trans hx499_0
         replace hx499_1 := (cell_far (p := ⟨gb497, 1, none⟩) (by first | (rw [add_block]; exact hn499_1) | (show (Addr.add _ _).block ≠ _; rw [add_block]; exact hn499_1) | exact hn499_1) (.int .i64 ((rd_T72 l0 x6_1).f1))).trans hx499_1
         (try have hy499_0 := fun (n_ : Nat) => (show ((((w11.drewN n_).setCell ⟨gb497, 0, none⟩ (.int .i64 ((rd_T72 l0 x6_1).f0))).setCell ⟨gb497, 1, none⟩ (.int .i64 ((rd_T72 l0 x6_1).f1)))).cell? _ = some _ from hx499_0))
         (try have hy499_1 := fun (n_ : Nat) => (show ((((w11.drewN n_).setCell ⟨gb497, 0, none⟩ (.int .i64 ((rd_T72 l0 x6_1).f0))).setCell ⟨gb497, 1, none⟩ (.int .i64 ((rd_T72 l0 x6_1).f1)))).cell? _ = some _ from hx499_1))
         clear hn499_0 hn499_1
         replace p499 := eq_true p499
         replace q499 := eq_true q499
         have hcz14_0 : w11.cell? ⟨gb497, 0, none⟩ = some (.int .i64 0) := (blk_cell BK497.out 0).trans rfl
         have hcz14_1 : w11.cell? ⟨gb497, 1, none⟩ = some (.int .i64 0) := (blk_cell BK497.out 1).trans rfl
         have hfz14_0 := blk_frozen BK497.out 0
         have hfz14_1 := blk_frozen BK497.out 1
         go_wp2
         repeat (go_quiet (fail); try go_wp2)
         go_meet
         case rel => exact ⟨_, ((rd_T72 l1 x7_2).f0), H', ⟨by have := HK1.out; have := HK2.out; first | omega | exact Nat.le_refl _⟩, ⟨by (with_reducible repeat (first | apply Kd.R_alloc | apply Kd.R_drewN | apply Kd.R_drew)); exact Kd.R_mono (Kd.R_far (p := ⟨gb497, 0, none⟩) (Kd.R_far (p := ⟨gb497, 1, none⟩) (Kd.R_far (p := ⟨gb497, 0, none⟩) (Kd.R_mono HO_5.out (fun k_ hk => (⟨hk, hk.2⟩ : _ ∧ k_ ≠ gb497))) (fun _ hk => hk.2) (.int .i64 ((rd_T72 l0 x6_1).f0))) (fun _ hk => hk.2) (.int .i64 ((rd_T72 l0 x6_1).f1))) (fun _ hk => hk.2) (.int .i64 ((rd_T72 l1 x7_2).f0))) (fun _ hk => hk.1.2)⟩, ⟨by (with_reducible repeat (first | refine blk_drewN ?_ _ | refine blk_drew ?_ | refine blk_alloc ?_ _)); refine blk_put (cs := #[.int .i64 ((rd_T72 l0 x6_1).f0), .int .i64 ((rd_T72 l0 x6_1).f1)]) ?_ 0 _ rfl; (with_reducible repeat (first | refine blk_drewN ?_ _ | refine blk_drew ?_ | refine blk_alloc ?_ _)); refine blk_put (cs := #[.int .i64 ((rd_T72 l0 x6_1).f0), .int .i64 0]) ?_ 1 _ rfl; (with_reducible repeat (first | refine blk_drewN ?_ _ | refine blk_drew ?_ | refine blk_alloc ?_ _)); refine blk_put (cs := #[.int .i64 0, .int .i64 0]) ?_ 0 _ rfl; (with_reducible repeat (first | refine blk_drewN ?_ _ | refine blk_drew ?_ | refine blk_alloc ?_ _)); exact BK497.out⟩, ⟨zz6 GE497⟩⟩
        ·(first | rw [c13b0] | (simp only [i64_w, i32_w]; rw [c13b0]) | skip)
         have H' := Aside0.mk H
         clear H
         go_wp2
         repeat (go_quiet (fail); try go_wp2)
         go_meet
         case rel => exact ⟨_, ((rd_T72 l0 x6_1).f0), H', ⟨by have := HK1.out; have := HK2.out; first | omega | exact Nat.le_refl _⟩, ⟨by (with_reducible repeat (first | apply Kd.R_alloc | apply Kd.R_drewN | apply Kd.R_drew)); exact Kd.R_mono (Kd.R_far (p := ⟨gb497, 1, none⟩) (Kd.R_far (p := ⟨gb497, 0, none⟩) (Kd.R_mono HO_5.out (fun k_ hk => (⟨hk, hk.2⟩ : _ ∧ k_ ≠ gb497))) (fun _ hk => hk.2) (.int .i64 ((rd_T72 l0 x6_1).f0))) (fun _ hk => hk.2) (.int .i64 ((rd_T72 l0 x6_1).f1))) (fun _ hk => hk.1.2)⟩, ⟨by (with_reducible repeat (first | refine blk_drewN ?_ _ | refine blk_drew ?_ | refine blk_alloc ?_ _)); refine blk_put (cs := #[.int .i64 ((rd_T72 l0 x6_1).f0), .int .i64 0]) ?_ 1 _ rfl; (with_reducible repeat (first | refine blk_drewN ?_ _ | refine blk_drew ?_ | refine blk_alloc ?_ _)); refine blk_put (cs := #[.int .i64 0, .int .i64 0]) ?_ 0 _ rfl; (with_reducible repeat (first | refine blk_drewN ?_ _ | refine blk_drew ?_ | refine blk_alloc ?_ _)); exact BK497.out⟩, ⟨zz6 GE497⟩⟩
       case rest =>
        clear HC10
        try clear c1
        try clear p2
        try clear p4
        try clear q4
        try clear hx4
        try clear c5
        try clear c5b0
        try clear c6
        try clear c6b0
        try clear c7
        try clear c7b0
        try clear c8
        try clear c8b0
        try clear c9
        try clear c9b0
        try clear c13
        try clear c13b0
        try clear hcz12_0
        try clear hcz12_1
        try clear hcz14_0
        try clear hcz14_1
        try clear hfz12_0
        try clear hfz12_1
        try clear hfz14_0
        try clear hfz14_1
        try clear hx496_0
        try clear hx496_1
        try clear hx498_0
        try clear hx498_1
        try clear hx499_0
        try clear hx499_1
        try clear p2
        try clear p496
        try clear p498
        try clear p499
        try clear q496
        try clear q498
        try clear q499
        obtain ⟨kq, x498000_9, HA, HJ9, HO_5, BK497, HB⟩ := hcut
        cases kq with
        | zero => exact absurd HA.out (by simp [spec_l2Both.j2])
        | succ kj9 =>
         have H := HA.out
         clear HA
         simp only [spec_l2Both.j2] at H
         replace H := gd H
         obtain ⟨c15b0, H⟩ := H
         replace H := gd H
         obtain ⟨c16b0, H⟩ := H
         replace H := ic H
         rcases H with ⟨c17b0, H⟩ | ⟨c17b0, H⟩
         ·replace H := ic H
          rcases H with ⟨c18b0, H⟩ | ⟨c18b0, H⟩
          ·replace H := gp H
           obtain ⟨c19, H⟩ := H
           have LMc19 := Aside0.mk c19
           clear c19
           obtain ⟨y502, hy502⟩ : ∃ y_ : List (S72), y_ = (x5_2 ++ [(⟨x498000_9, (rd_T72 l1 x7_2).f1⟩ : S72)]) := ⟨_, rfl⟩
           replace H : (spec_l2Both.l1 kj9 l0 l1 y502 x6_1 (wrap64 (x7_2 + 1))) = some r := by first | (rw [hy502]; with_reducible exact H) | (have H2_ := (Option.bind_some _ _).symm.trans H; rw [hy502]; with_reducible exact H2_) | (have H2_ := (Option.bind_some _ _).symm.trans H; with_reducible exact H2_) | with_reducible exact H | (rw [hy502]; exact H) | exact H
           have Ny502 := Aside0.mk hy502
           clear hy502
           have H' := Aside0.mk H
           clear H
           obtain ⟨⟨ad500, e500, hx500_0, hx500_1⟩, p500, q500⟩ := wi (at_T72 HR1.out x7_2)
           obtain rfl : ad498 = ad500 := (by injection e500)
           replace hx500_0 := (HB.out.cell (World.block_lt_of_cell? w _ hx500_0)).trans hx500_0
           replace hx500_1 := (HB.out.cell (World.block_lt_of_cell? w _ hx500_1)).trans hx500_1
           have hcz20_0 : wc.cell? ⟨gb497, 0, none⟩ = some (.int .i64 x498000_9) := (blk_cell BK497.out 0).trans rfl
           have hcz20_1 : wc.cell? ⟨gb497, 1, none⟩ = some (.int .i64 ((rd_T72 l0 x6_1).f1)) := (blk_cell BK497.out 1).trans rfl
           have hfz20_0 := blk_frozen BK497.out 0
           have hfz20_1 := blk_frozen BK497.out 1
           obtain ⟨⟨ad501, e501, hx501_0, hx501_1⟩, p501, q501⟩ := wi (at_T72 HR1.out x7_2)
           obtain rfl : ad498 = ad501 := (by injection e501)
           replace hx501_0 := (HB.out.cell (World.block_lt_of_cell? w _ hx501_0)).trans hx501_0
           replace hx501_1 := (HB.out.cell (World.block_lt_of_cell? w _ hx501_1)).trans hx501_1
           go_wp2_with (first | ((with_reducible refine gate_builtin (b := .append) (xs := #[.tmp 59, .tmp 61]) rfl ?_); at_builtin; refine Kd.R_append k72 (w0 := w) w.heap.size rfl (.tmp 59) (.tmp 61) 73 72 (.agg #[(.int .i64 0), (.int .i64 0)]) 16 rfl Try.underlying73 info72 rfl (by decide) (by omega) u5 x5_2 (⟨x498000_9, (rd_T72 l1 x7_2).f1⟩ : S72) [.int .i64 x498000_9, .int .i64 ((rd_T72 l1 x7_2).f1)] (fun k_ => k_ ≠ gb497) (fun _ => False) rfl zz42 ?aP (fun _ hk => hk.elim) ?aF ?aO ?aB ?aS ?aL ?_; (case aP => exact k72_mkM _ _ _ (⟨x498000_9, (rd_T72 l1 x7_2).f1⟩ : S72)); (case aB => exact zz6 GE497); (case aF => exact (fun k_ hk => Kd.freshB (g := gb497) (o := .cells #[.int .i64 x498000_9, .int .i64 ((rd_T72 l1 x7_2).f1)] 72 (0, 0)) (by (with_reducible repeat (first | refine blk_drewN ?_ _ | refine blk_drew ?_ | refine blk_alloc ?_ _)); refine blk_put (cs := #[.int .i64 x498000_9, .int .i64 ((rd_T72 l0 x6_1).f1)]) ?_ 1 _ rfl; (with_reducible repeat (first | refine blk_drewN ?_ _ | refine blk_drew ?_ | refine blk_alloc ?_ _)); exact BK497.out) k_ hk)); (case aO => (with_reducible repeat (first | apply Kd.R_alloc | apply Kd.R_drewN | apply Kd.R_drew)); exact Kd.R_mono (Kd.R_far (p := ⟨gb497, 1, none⟩) (Kd.R_mono HO_5.out (fun k_ hk => (⟨hk, hk⟩ : _ ∧ k_ ≠ gb497))) (fun _ hk => hk.2) (.int .i64 ((rd_T72 l1 x7_2).f1))) (fun _ hk => hk.1)); (case aS => exact zz14 GE497); (case aL => exact zz3 LMc19); intro v503 w21 ho hb hg hat; rw [← Ny502.out] at ho; replace BK497 := Aside0.mk (blk_grown (g := gb497) (o := .cells #[.int .i64 x498000_9, .int .i64 ((rd_T72 l1 x7_2).f1)] 72 (0, 0)) (by (with_reducible repeat (first | refine blk_drewN ?_ _ | refine blk_drew ?_ | refine blk_alloc ?_ _)); refine blk_put (cs := #[.int .i64 x498000_9, .int .i64 ((rd_T72 l0 x6_1).f1)]) ?_ 1 _ rfl; (with_reducible repeat (first | refine blk_drewN ?_ _ | refine blk_drew ?_ | refine blk_alloc ?_ _)); exact BK497.out) hg (Kd.R_away HO_5.out (fun _ hk => hk))); replace HB := Aside0.mk hb; have HO504 := Aside0.mk ho; clear HO_5 ho hb hg hat))
           repeat (go_quiet (first | ((with_reducible refine gate_builtin (b := .append) (xs := #[.tmp 59, .tmp 61]) rfl ?_); at_builtin; refine Kd.R_append k72 (w0 := w) w.heap.size rfl (.tmp 59) (.tmp 61) 73 72 (.agg #[(.int .i64 0), (.int .i64 0)]) 16 rfl Try.underlying73 info72 rfl (by decide) (by omega) u5 x5_2 (⟨x498000_9, (rd_T72 l1 x7_2).f1⟩ : S72) [.int .i64 x498000_9, .int .i64 ((rd_T72 l1 x7_2).f1)] (fun k_ => k_ ≠ gb497) (fun _ => False) rfl zz42 ?aP (fun _ hk => hk.elim) ?aF ?aO ?aB ?aS ?aL ?_; (case aP => exact k72_mkM _ _ _ (⟨x498000_9, (rd_T72 l1 x7_2).f1⟩ : S72)); (case aB => exact zz6 GE497); (case aF => exact (fun k_ hk => Kd.freshB (g := gb497) (o := .cells #[.int .i64 x498000_9, .int .i64 ((rd_T72 l1 x7_2).f1)] 72 (0, 0)) (by (with_reducible repeat (first | refine blk_drewN ?_ _ | refine blk_drew ?_ | refine blk_alloc ?_ _)); refine blk_put (cs := #[.int .i64 x498000_9, .int .i64 ((rd_T72 l0 x6_1).f1)]) ?_ 1 _ rfl; (with_reducible repeat (first | refine blk_drewN ?_ _ | refine blk_drew ?_ | refine blk_alloc ?_ _)); exact BK497.out) k_ hk)); (case aO => (with_reducible repeat (first | apply Kd.R_alloc | apply Kd.R_drewN | apply Kd.R_drew)); exact Kd.R_mono (Kd.R_far (p := ⟨gb497, 1, none⟩) (Kd.R_mono HO_5.out (fun k_ hk => (⟨hk, hk⟩ : _ ∧ k_ ≠ gb497))) (fun _ hk => hk.2) (.int .i64 ((rd_T72 l1 x7_2).f1))) (fun _ hk => hk.1)); (case aS => exact zz14 GE497); (case aL => exact zz3 LMc19); intro v503 w21 ho hb hg hat; rw [← Ny502.out] at ho; replace BK497 := Aside0.mk (blk_grown (g := gb497) (o := .cells #[.int .i64 x498000_9, .int .i64 ((rd_T72 l1 x7_2).f1)] 72 (0, 0)) (by (with_reducible repeat (first | refine blk_drewN ?_ _ | refine blk_drew ?_ | refine blk_alloc ?_ _)); refine blk_put (cs := #[.int .i64 x498000_9, .int .i64 ((rd_T72 l0 x6_1).f1)]) ?_ 1 _ rfl; (with_reducible repeat (first | refine blk_drewN ?_ _ | refine blk_drew ?_ | refine blk_alloc ?_ _)); exact BK497.out) hg (Kd.R_away HO_5.out (fun _ hk => hk))); replace HB := Aside0.mk hb; have HO504 := Aside0.mk ho; clear HO_5 ho hb hg hat)); try go_wp2_with (first | ((with_reducible refine gate_builtin (b := .append) (xs := #[.tmp 59, .tmp 61]) rfl ?_); at_builtin; refine Kd.R_append k72 (w0 := w) w.heap.size rfl (.tmp 59) (.tmp 61) 73 72 (.agg #[(.int .i64 0), (.int .i64 0)]) 16 rfl Try.underlying73 info72 rfl (by decide) (by omega) u5 x5_2 (⟨x498000_9, (rd_T72 l1 x7_2).f1⟩ : S72) [.int .i64 x498000_9, .int .i64 ((rd_T72 l1 x7_2).f1)] (fun k_ => k_ ≠ gb497) (fun _ => False) rfl zz42 ?aP (fun _ hk => hk.elim) ?aF ?aO ?aB ?aS ?aL ?_; (case aP => exact k72_mkM _ _ _ (⟨x498000_9, (rd_T72 l1 x7_2).f1⟩ : S72)); (case aB => exact zz6 GE497); (case aF => exact (fun k_ hk => Kd.freshB (g := gb497) (o := .cells #[.int .i64 x498000_9, .int .i64 ((rd_T72 l1 x7_2).f1)] 72 (0, 0)) (by (with_reducible repeat (first | refine blk_drewN ?_ _ | refine blk_drew ?_ | refine blk_alloc ?_ _)); refine blk_put (cs := #[.int .i64 x498000_9, .int .i64 ((rd_T72 l0 x6_1).f1)]) ?_ 1 _ rfl; (with_reducible repeat (first | refine blk_drewN ?_ _ | refine blk_drew ?_ | refine blk_alloc ?_ _)); exact BK497.out) k_ hk)); (case aO => (with_reducible repeat (first | apply Kd.R_alloc | apply Kd.R_drewN | apply Kd.R_drew)); exact Kd.R_mono (Kd.R_far (p := ⟨gb497, 1, none⟩) (Kd.R_mono HO_5.out (fun k_ hk => (⟨hk, hk⟩ : _ ∧ k_ ≠ gb497))) (fun _ hk => hk.2) (.int .i64 ((rd_T72 l1 x7_2).f1))) (fun _ hk => hk.1)); (case aS => exact zz14 GE497); (case aL => exact zz3 LMc19); intro v503 w21 ho hb hg hat; rw [← Ny502.out] at ho; replace BK497 := Aside0.mk (blk_grown (g := gb497) (o := .cells #[.int .i64 x498000_9, .int .i64 ((rd_T72 l1 x7_2).f1)] 72 (0, 0)) (by (with_reducible repeat (first | refine blk_drewN ?_ _ | refine blk_drew ?_ | refine blk_alloc ?_ _)); refine blk_put (cs := #[.int .i64 x498000_9, .int .i64 ((rd_T72 l0 x6_1).f1)]) ?_ 1 _ rfl; (with_reducible repeat (first | refine blk_drewN ?_ _ | refine blk_drew ?_ | refine blk_alloc ?_ _)); exact BK497.out) hg (Kd.R_away HO_5.out (fun _ hk => hk))); replace HB := Aside0.mk hb; have HO504 := Aside0.mk ho; clear HO_5 ho hb hg hat)))
           go_roundg kj9
           case measure => have := HK1.out; have := HK2.out; have := HJ9.out; omega
           case rel => exact ⟨(y502), (wrap64 (x7_2 + 1)), zz1, H', ⟨zz59 HK1 HK2 HJ9⟩, ⟨zz19 HO504⟩, ⟨zz6 GE497⟩⟩
          ·have H' := Aside0.mk H
           clear H
           obtain ⟨⟨ad500, e500, hx500_0, hx500_1⟩, p500, q500⟩ := wi (at_T72 HR1.out x7_2)
           obtain rfl : ad498 = ad500 := (by injection e500)
           replace hx500_0 := (HB.out.cell (World.block_lt_of_cell? w _ hx500_0)).trans hx500_0
           replace hx500_1 := (HB.out.cell (World.block_lt_of_cell? w _ hx500_1)).trans hx500_1
           have hcz22_0 : wc.cell? ⟨gb497, 0, none⟩ = some (.int .i64 x498000_9) := (blk_cell BK497.out 0).trans rfl
           have hcz22_1 : wc.cell? ⟨gb497, 1, none⟩ = some (.int .i64 ((rd_T72 l0 x6_1).f1)) := (blk_cell BK497.out 1).trans rfl
           have hfz22_0 := blk_frozen BK497.out 0
           have hfz22_1 := blk_frozen BK497.out 1
           obtain ⟨⟨ad501, e501, hx501_0, hx501_1⟩, p501, q501⟩ := wi (at_T72 HR1.out x7_2)
           obtain rfl : ad498 = ad501 := (by injection e501)
           replace hx501_0 := (HB.out.cell (World.block_lt_of_cell? w _ hx501_0)).trans hx501_0
           replace hx501_1 := (HB.out.cell (World.block_lt_of_cell? w _ hx501_1)).trans hx501_1
           go_wp2
           repeat (go_quiet (fail); try go_wp2)
           go_roundg kj9
           case measure => have := HK1.out; have := HK2.out; have := HJ9.out; omega
           case rel => exact ⟨(x5_2), (wrap64 (x7_2 + 1)), zz1, H', ⟨zz59 HK1 HK2 HJ9⟩, ⟨by (with_reducible repeat (first | apply Kd.R_alloc | apply Kd.R_drewN | apply Kd.R_drew)); exact Kd.R_mono (Kd.R_far (p := ⟨gb497, 1, none⟩) (Kd.R_mono HO_5.out (fun k_ hk => (⟨hk, hk⟩ : _ ∧ k_ ≠ gb497))) (fun _ hk => hk.2) (.int .i64 ((rd_T72 l1 x7_2).f1))) (fun _ hk => trivial)⟩, ⟨zz6 GE497⟩⟩
         ·replace H := ic H
          rcases H with ⟨c23b0, H⟩ | ⟨c23b0, H⟩
          ·replace H := gp H
           obtain ⟨c24, H⟩ := H
           have LMc24 := Aside0.mk c24
           clear c24
           obtain ⟨y505, hy505⟩ : ∃ y_ : List (S72), y_ = (x5_2 ++ [(⟨x498000_9, ((rd_T72 l0 x6_1).f1)⟩ : S72)]) := ⟨_, rfl⟩
           replace H : (spec_l2Both.l1 kj9 l0 l1 y505 x6_1 (wrap64 (x7_2 + 1))) = some r := by first | (rw [hy505]; with_reducible exact H) | (have H2_ := (Option.bind_some _ _).symm.trans H; rw [hy505]; with_reducible exact H2_) | (have H2_ := (Option.bind_some _ _).symm.trans H; with_reducible exact H2_) | with_reducible exact H | (rw [hy505]; exact H) | exact H
           have Ny505 := Aside0.mk hy505
           clear hy505
           have H' := Aside0.mk H
           clear H
           obtain ⟨⟨ad500, e500, hx500_0, hx500_1⟩, p500, q500⟩ := wi (at_T72 HR1.out x7_2)
           obtain rfl : ad498 = ad500 := (by injection e500)
           replace hx500_0 := (HB.out.cell (World.block_lt_of_cell? w _ hx500_0)).trans hx500_0
           replace hx500_1 := (HB.out.cell (World.block_lt_of_cell? w _ hx500_1)).trans hx500_1
           have hcz25_0 : wc.cell? ⟨gb497, 0, none⟩ = some (.int .i64 x498000_9) := (blk_cell BK497.out 0).trans rfl
           have hcz25_1 : wc.cell? ⟨gb497, 1, none⟩ = some (.int .i64 ((rd_T72 l0 x6_1).f1)) := (blk_cell BK497.out 1).trans rfl
           have hfz25_0 := blk_frozen BK497.out 0
           have hfz25_1 := blk_frozen BK497.out 1
           go_wp2_with (first | ((with_reducible refine gate_builtin (b := .append) (xs := #[.tmp 59, .tmp 61]) rfl ?_); at_builtin; refine Kd.R_append k72 (w0 := w) w.heap.size rfl (.tmp 59) (.tmp 61) 73 72 (.agg #[(.int .i64 0), (.int .i64 0)]) 16 rfl Try.underlying73 info72 rfl (by decide) (by omega) u5 x5_2 (⟨x498000_9, ((rd_T72 l0 x6_1).f1)⟩ : S72) [.int .i64 x498000_9, .int .i64 ((rd_T72 l0 x6_1).f1)] (fun k_ => k_ ≠ gb497) (fun _ => False) rfl rfl ?aP (fun _ hk => hk.elim) ?aF ?aO ?aB ?aS ?aL ?_; (case aP => exact k72_mkM _ _ _ (⟨x498000_9, ((rd_T72 l0 x6_1).f1)⟩ : S72)); (case aB => exact zz6 GE497); (case aF => exact (fun k_ hk => Kd.freshB (g := gb497) (o := .cells #[.int .i64 x498000_9, .int .i64 ((rd_T72 l0 x6_1).f1)] 72 (0, 0)) (zz7 BK497) k_ hk)); (case aO => exact zz12 HO_5); (case aS => exact zz14 GE497); (case aL => exact zz3 LMc24); intro v506 w26 ho hb hg hat; rw [← Ny505.out] at ho; replace BK497 := Aside0.mk (blk_grown (g := gb497) (o := .cells #[.int .i64 x498000_9, .int .i64 ((rd_T72 l0 x6_1).f1)] 72 (0, 0)) (zz7 BK497) hg (Kd.R_away HO_5.out (fun _ hk => hk))); replace HB := Aside0.mk hb; have HO507 := Aside0.mk ho; clear HO_5 ho hb hg hat))
           repeat (go_quiet (first | ((with_reducible refine gate_builtin (b := .append) (xs := #[.tmp 59, .tmp 61]) rfl ?_); at_builtin; refine Kd.R_append k72 (w0 := w) w.heap.size rfl (.tmp 59) (.tmp 61) 73 72 (.agg #[(.int .i64 0), (.int .i64 0)]) 16 rfl Try.underlying73 info72 rfl (by decide) (by omega) u5 x5_2 (⟨x498000_9, ((rd_T72 l0 x6_1).f1)⟩ : S72) [.int .i64 x498000_9, .int .i64 ((rd_T72 l0 x6_1).f1)] (fun k_ => k_ ≠ gb497) (fun _ => False) rfl rfl ?aP (fun _ hk => hk.elim) ?aF ?aO ?aB ?aS ?aL ?_; (case aP => exact k72_mkM _ _ _ (⟨x498000_9, ((rd_T72 l0 x6_1).f1)⟩ : S72)); (case aB => exact zz6 GE497); (case aF => exact (fun k_ hk => Kd.freshB (g := gb497) (o := .cells #[.int .i64 x498000_9, .int .i64 ((rd_T72 l0 x6_1).f1)] 72 (0, 0)) (zz7 BK497) k_ hk)); (case aO => exact zz12 HO_5); (case aS => exact zz14 GE497); (case aL => exact zz3 LMc24); intro v506 w26 ho hb hg hat; rw [← Ny505.out] at ho; replace BK497 := Aside0.mk (blk_grown (g := gb497) (o := .cells #[.int .i64 x498000_9, .int .i64 ((rd_T72 l0 x6_1).f1)] 72 (0, 0)) (zz7 BK497) hg (Kd.R_away HO_5.out (fun _ hk => hk))); replace HB := Aside0.mk hb; have HO507 := Aside0.mk ho; clear HO_5 ho hb hg hat)); try go_wp2_with (first | ((with_reducible refine gate_builtin (b := .append) (xs := #[.tmp 59, .tmp 61]) rfl ?_); at_builtin; refine Kd.R_append k72 (w0 := w) w.heap.size rfl (.tmp 59) (.tmp 61) 73 72 (.agg #[(.int .i64 0), (.int .i64 0)]) 16 rfl Try.underlying73 info72 rfl (by decide) (by omega) u5 x5_2 (⟨x498000_9, ((rd_T72 l0 x6_1).f1)⟩ : S72) [.int .i64 x498000_9, .int .i64 ((rd_T72 l0 x6_1).f1)] (fun k_ => k_ ≠ gb497) (fun _ => False) rfl rfl ?aP (fun _ hk => hk.elim) ?aF ?aO ?aB ?aS ?aL ?_; (case aP => exact k72_mkM _ _ _ (⟨x498000_9, ((rd_T72 l0 x6_1).f1)⟩ : S72)); (case aB => exact zz6 GE497); (case aF => exact (fun k_ hk => Kd.freshB (g := gb497) (o := .cells #[.int .i64 x498000_9, .int .i64 ((rd_T72 l0 x6_1).f1)] 72 (0, 0)) (zz7 BK497) k_ hk)); (case aO => exact zz12 HO_5); (case aS => exact zz14 GE497); (case aL => exact zz3 LMc24); intro v506 w26 ho hb hg hat; rw [← Ny505.out] at ho; replace BK497 := Aside0.mk (blk_grown (g := gb497) (o := .cells #[.int .i64 x498000_9, .int .i64 ((rd_T72 l0 x6_1).f1)] 72 (0, 0)) (zz7 BK497) hg (Kd.R_away HO_5.out (fun _ hk => hk))); replace HB := Aside0.mk hb; have HO507 := Aside0.mk ho; clear HO_5 ho hb hg hat)))
           go_roundg kj9
           case measure => have := HK1.out; have := HK2.out; have := HJ9.out; omega
           case rel => exact ⟨(y505), (wrap64 (x7_2 + 1)), zz1, H', ⟨zz59 HK1 HK2 HJ9⟩, ⟨zz19 HO507⟩, ⟨zz6 GE497⟩⟩
          ·have H' := Aside0.mk H
           clear H
           obtain ⟨⟨ad500, e500, hx500_0, hx500_1⟩, p500, q500⟩ := wi (at_T72 HR1.out x7_2)
           obtain rfl : ad498 = ad500 := (by injection e500)
           replace hx500_0 := (HB.out.cell (World.block_lt_of_cell? w _ hx500_0)).trans hx500_0
           replace hx500_1 := (HB.out.cell (World.block_lt_of_cell? w _ hx500_1)).trans hx500_1
           have hcz27_0 : wc.cell? ⟨gb497, 0, none⟩ = some (.int .i64 x498000_9) := (blk_cell BK497.out 0).trans rfl
           have hcz27_1 : wc.cell? ⟨gb497, 1, none⟩ = some (.int .i64 ((rd_T72 l0 x6_1).f1)) := (blk_cell BK497.out 1).trans rfl
           have hfz27_0 := blk_frozen BK497.out 0
           have hfz27_1 := blk_frozen BK497.out 1
           go_wp2
           repeat (go_quiet (fail); try go_wp2)
           go_roundg kj9
           case measure => have := HK1.out; have := HK2.out; have := HJ9.out; omega
           case rel => exact ⟨(x5_2), (wrap64 (x7_2 + 1)), zz1, H', ⟨zz59 HK1 HK2 HJ9⟩, ⟨zz19 HO_5⟩, ⟨zz6 GE497⟩⟩
      ·have H' := Aside0.mk H
       clear H
       go_wp2
       repeat (go_quiet (fail); try go_wp2)
       go_roundg k2
       case measure => have := HK1.out; have := HK2.out; omega
       case rel => exact ⟨(x5_2), (wrap64 (x6_1 + 1)), zz1, H', ⟨by have := HK1.out; have := HK2.out; omega⟩, ⟨zz12 HO_5⟩, ⟨zz5⟩⟩
   ·obtain rfl := Option.some.inj H
    go_wp2
    repeat (go_quiet (fail); try go_wp2)
    go_ret
    exact ⟨_, zz8, zz12 HO_5, zz5⟩
def spec_l2Not.l0 : Nat → List (S72) → List (S72) → Int → Int → Option ((List (S72)))
 | 0, _, _, _, _ => none
 | k + 1, x0, x3, x4, x5 => if x5 < (x0.length : Int) then (if 0 ≤ x5 then (if ((rd_T72 x0 x5).f0) > x4 then (if x3.length < 8796093022208 then (spec_l2Not.l0 k x0 (x3 ++ [(⟨x4, wrap64 (((rd_T72 x0 x5).f0) - 1)⟩ : S72)]) (wrap64 (((rd_T72 x0 x5).f1) + 1)) (wrap64 (x5 + 1))) else (none)) else (spec_l2Not.l0 k x0 x3 (wrap64 (((rd_T72 x0 x5).f1) + 1)) (wrap64 (x5 + 1)))) else (none)) else (if x4 ≤ 4294967295 then (if x3.length < 8796093022208 then (some (x3 ++ [(⟨x4, 4294967295⟩ : S72)])) else (none)) else (some x3))
def spec_l2Not.f (k : Nat) (l0 : List (S72)) : Option ((List (S72))) := spec_l2Not.l0 k l0 (([] : List (S72))) 0 0
set_option maxHeartbeats 8000000 in
set_option maxRecDepth 100000 in
theorem spec_l2Not.calls (k : Nat) (A0 : Option Addr) (c0 : Nat) (l0 : List (S72)) (r : List (S72)) (w : World) (hr0 : Kd.C k72 w A0 l0.length l0) (hc0 : l0.length ≤ c0) (h : spec_l2Not.f k l0 = some r) :
  Calls Try.prog 78 #[.slice A0 l0.length c0] w fun e w' => ∃ v0_ : Value, e = .returned (v0_) ∧ Kd.R k72 72 w' w.heap.size (fun _ => True) v0_ r ∧ Below w.heap.size w w' := by
 have hu72 := Try.underlying72
 have HR0 := Aside0.mk hr0
 have HC0 := Aside0.mk hc0
 clear hr0 hc0
 have HB := Aside0.mk (Below.refl w.heap.size w)
 have H : (spec_l2Not.l0 k l0 (([] : List (S72))) 0 0) = some r := h
 clear h
 obtain ⟨y508, hy508⟩ : ∃ y_ : List (S72), y_ = (([] : List (S72))) := ⟨_, rfl⟩
 replace H : (spec_l2Not.l0 k l0 y508 0 0) = some r := by first | (rw [hy508]; with_reducible exact H) | (have H2_ := (Option.bind_some _ _).symm.trans H; rw [hy508]; with_reducible exact H2_) | (have H2_ := (Option.bind_some _ _).symm.trans H; with_reducible exact H2_) | with_reducible exact H | (rw [hy508]; exact H) | exact H
 have Ny508 := Aside0.mk hy508
 clear hy508
 have H' := Aside0.mk H
 clear H
 go_enter Try.func78, Try.ntmps78
 go_wp2_with (first | (refine gt 6 ?_; refine rl k72 72 6 ([] : List (S72)) [] ?hp ?_; (case hp => exact zz34); intro v509 w2 ho3 hb hg_ hnew_; clear hg_ hnew_; (first | rw [← Ny508.out] at ho3 | (simp only [Int.reduceToNat] at ho3; rw [← Ny508.out] at ho3)); have HO510 := Aside0.mk (Kd.R_lower ho3 (below_size zz5)); replace HB := Aside0.mk (below_step zz5 hb); clear hb ho3))
 go_loopg [3, 4, 5] k (fun kq v3 v4 v5 w' => ∃ (x3_1 : List (S72)) (x4_1 : Int) (x5_1 : Int), v4 = .int .i64 x4_1 ∧ v5 = .int .i64 x5_1 ∧ Aside0 (spec_l2Not.l0 kq l0 x3_1 x4_1 x5_1 = some r) ∧ Aside0 (kq ≤ k) ∧ Aside0 (Kd.R k72 72 w' w.heap.size (fun _ => True) v3 x3_1) ∧ Aside0 (Below w.heap.size w w'))
 case atStart => exact ⟨(y508), (0), (0), zz1, zz1, H', ⟨Nat.le_refl _⟩, ⟨zz12 HO510⟩, ⟨zz5⟩⟩
 case round =>
  clear H'
  try clear p2
  obtain ⟨x3_1, x4_1, x5_1, rfl, rfl, HA, HK1, HO_3, HB⟩ := hrel
  cases gk with
  | zero => exact absurd HA.out (by simp [spec_l2Not.l0])
  | succ k1 =>
   have H := HA.out
   clear HA
   simp only [spec_l2Not.l0] at H
   replace H := ic H
   rcases H with ⟨c4b0, H⟩ | ⟨c4b0, H⟩
   ·replace H := gd H
    obtain ⟨c5b0, H⟩ := H
    replace H := ic H
    rcases H with ⟨c6b0, H⟩ | ⟨c6b0, H⟩
    ·replace H := gp H
     obtain ⟨c7, H⟩ := H
     have LMc7 := Aside0.mk c7
     clear c7
     obtain ⟨y513, hy513⟩ : ∃ y_ : List (S72), y_ = (x3_1 ++ [(⟨x4_1, wrap64 (((rd_T72 l0 x5_1).f0) - 1)⟩ : S72)]) := ⟨_, rfl⟩
     replace H : (spec_l2Not.l0 k1 l0 y513 (wrap64 (((rd_T72 l0 x5_1).f1) + 1)) (wrap64 (x5_1 + 1))) = some r := by first | (rw [hy513]; with_reducible exact H) | (have H2_ := (Option.bind_some _ _).symm.trans H; rw [hy513]; with_reducible exact H2_) | (have H2_ := (Option.bind_some _ _).symm.trans H; with_reducible exact H2_) | with_reducible exact H | (rw [hy513]; exact H) | exact H
     have Ny513 := Aside0.mk hy513
     clear hy513
     have H' := Aside0.mk H
     clear H
     obtain ⟨⟨ad511, e511, hx511_0, hx511_1⟩, p511, q511⟩ := wi (at_T72 HR0.out x5_1)
     cases e511
     replace hx511_0 := (HB.out.cell (World.block_lt_of_cell? w _ hx511_0)).trans hx511_0
     replace hx511_1 := (HB.out.cell (World.block_lt_of_cell? w _ hx511_1)).trans hx511_1
     obtain ⟨⟨ad512, e512, hx512_0, hx512_1⟩, p512, q512⟩ := wi (at_T72 HR0.out x5_1)
     obtain rfl : ad511 = ad512 := (by injection e512)
     replace hx512_0 := (HB.out.cell (World.block_lt_of_cell? w _ hx512_0)).trans hx512_0
     replace hx512_1 := (HB.out.cell (World.block_lt_of_cell? w _ hx512_1)).trans hx512_1
     go_wp2_with (first | ((with_reducible refine gate_builtin (b := .append) (xs := #[.tmp 20, .tmp 29]) rfl ?_); at_builtin; refine Kd.R_append k72 (w0 := w) w.heap.size rfl (.tmp 20) (.tmp 29) 73 72 (.agg #[(.int .i64 0), (.int .i64 0)]) 16 rfl Try.underlying73 info72 rfl (by decide) (by omega) u3 x3_1 (⟨x4_1, wrap64 (((rd_T72 l0 x5_1).f0) - 1)⟩ : S72) [.int .i64 x4_1, .int .i64 (wrap64 (((rd_T72 l0 x5_1).f0) - 1))] (fun _ => True) (fun _ => False) rfl rfl ?aP (fun _ hk => hk.elim) ?aF ?aO ?aB ?aS ?aL ?_; (case aP => exact k72_mkM _ _ _ (⟨x4_1, wrap64 (((rd_T72 l0 x5_1).f0) - 1)⟩ : S72)); (case aB => exact zz5); (case aF => exact zz13); (case aO => exact zz12 HO_3); (case aS => exact zz60); (case aL => exact zz3 LMc7); intro v514 w8 ho hb hg hat; rw [← Ny513.out] at ho; replace HB := Aside0.mk hb; have HO515 := Aside0.mk ho; clear HO_3 ho hb hg hat; obtain ⟨⟨ad516, e516, hx516_0, hx516_1⟩, p516, q516⟩ := wi (at_T72 HR0.out x5_1); obtain rfl : ad511 = ad516 := (by injection e516); replace hx516_0 := (HB.out.cell (World.block_lt_of_cell? w _ hx516_0)).trans hx516_0; replace hx516_1 := (HB.out.cell (World.block_lt_of_cell? w _ hx516_1)).trans hx516_1))
     go_roundg k1
     case measure => have := HK1.out; omega
     case rel => exact ⟨(y513), (wrap64 (((rd_T72 l0 x5_1).f1) + 1)), (wrap64 (x5_1 + 1)), zz1, zz1, H', ⟨zz3 HK1⟩, ⟨zz12 HO515⟩, ⟨zz5⟩⟩
    ·have H' := Aside0.mk H
     clear H
     obtain ⟨⟨ad511, e511, hx511_0, hx511_1⟩, p511, q511⟩ := wi (at_T72 HR0.out x5_1)
     cases e511
     replace hx511_0 := (HB.out.cell (World.block_lt_of_cell? w _ hx511_0)).trans hx511_0
     replace hx511_1 := (HB.out.cell (World.block_lt_of_cell? w _ hx511_1)).trans hx511_1
     obtain ⟨⟨ad517, e517, hx517_0, hx517_1⟩, p517, q517⟩ := wi (at_T72 HR0.out x5_1)
     obtain rfl : ad511 = ad517 := (by injection e517)
     replace hx517_0 := (HB.out.cell (World.block_lt_of_cell? w _ hx517_0)).trans hx517_0
     replace hx517_1 := (HB.out.cell (World.block_lt_of_cell? w _ hx517_1)).trans hx517_1
     go_wp2
     go_roundg k1
     case measure => have := HK1.out; omega
     case rel => exact ⟨(x3_1), (wrap64 (((rd_T72 l0 x5_1).f1) + 1)), (wrap64 (x5_1 + 1)), zz1, zz1, H', ⟨zz3 HK1⟩, ⟨zz12 HO_3⟩, ⟨zz5⟩⟩
   ·replace H := ic H
    rcases H with ⟨c9b0, H⟩ | ⟨c9b0, H⟩
    ·replace H := gp H
     obtain ⟨c10, H⟩ := H
     have LMc10 := Aside0.mk c10
     clear c10
     obtain ⟨y518, hy518⟩ : ∃ y_ : List (S72), y_ = (x3_1 ++ [(⟨x4_1, 4294967295⟩ : S72)]) := ⟨_, rfl⟩
     replace H : (some y518) = some r := by first | (rw [hy518]; with_reducible exact H) | (have H2_ := (Option.bind_some _ _).symm.trans H; rw [hy518]; with_reducible exact H2_) | (have H2_ := (Option.bind_some _ _).symm.trans H; with_reducible exact H2_) | with_reducible exact H | (rw [hy518]; exact H) | exact H
     have Ny518 := Aside0.mk hy518
     clear hy518
     obtain rfl := Option.some.inj H
     go_wp2_with (first | ((with_reducible refine gate_builtin (b := .append) (xs := #[.tmp 39, .tmp 42]) rfl ?_); at_builtin; refine Kd.R_append k72 (w0 := w) w.heap.size rfl (.tmp 39) (.tmp 42) 73 72 (.agg #[(.int .i64 0), (.int .i64 0)]) 16 rfl Try.underlying73 info72 rfl (by decide) (by omega) u3 x3_1 (⟨x4_1, 4294967295⟩ : S72) [.int .i64 x4_1, .int .i64 4294967295] (fun _ => True) (fun _ => False) rfl rfl ?aP (fun _ hk => hk.elim) ?aF ?aO ?aB ?aS ?aL ?_; (case aP => exact k72_mkM _ _ _ (⟨x4_1, 4294967295⟩ : S72)); (case aB => exact zz5); (case aF => exact zz13); (case aO => exact zz12 HO_3); (case aS => exact zz60); (case aL => exact zz3 LMc10); intro v519 w11 ho hb hg hat; rw [← Ny518.out] at ho; replace HB := Aside0.mk hb; have HO520 := Aside0.mk ho; clear HO_3 ho hb hg hat))
     go_ret
     exact ⟨_, zz8, zz12 HO520, zz5⟩
    ·obtain rfl := Option.some.inj H
     go_wp2
     go_ret
     exact ⟨_, zz8, zz12 HO_3, zz5⟩
def spec_SetLess.j0 : Nat → List (S40) → List (S40) → Bool → Option ((List (S40)) × Bool)
 | 0, _, _, _ => none
 | k + 1, x0, x1, x13 => if x13 = true then (some ((([] : List (S40))), false)) else ((spec_l2Spans.f k x0).bind fun t526 => ((spec_l2Spans.f k x1).bind fun t529 => ((spec_l2Not.f k t529).bind fun t532 => ((spec_l2Both.f k t526 t532).bind fun t535 => ((spec_l2Cover.f k t535).bind fun t538 => ((spec_l2Room.f t538).bind fun bt541 => (some (bt541.1, bt541.2))))))))
def spec_SetLess.f (k : Nat) (l0 : List (S40)) (l1 : List (S40)) : Option ((List (S40)) × Bool) := (spec_SetOk.f k l0).bind fun t521 => (if t521 = true then ((spec_SetOk.f k l1).bind fun t522 => (spec_SetLess.j0 k l0 l1 (!t522))) else (spec_SetLess.j0 k l0 l1 true))
set_option maxHeartbeats 8000000 in
set_option maxRecDepth 100000 in
theorem spec_SetLess.calls (k : Nat) (A0 : Option Addr) (c0 : Nat) (l0 : List (S40)) (A1 : Option Addr) (c1 : Nat) (l1 : List (S40)) (r1 : List (S40)) (r2 : Bool) (w : World) (hr0 : Kd.C k40 w A0 l0.length l0) (hc0 : l0.length ≤ c0) (hr1 : Kd.C k40 w A1 l1.length l1) (hc1 : l1.length ≤ c1) (h : spec_SetLess.f k l0 l1 = some (r1, r2)) :
  Calls Try.prog 32 #[.slice A0 l0.length c0, .slice A1 l1.length c1] w fun e w' => ∃ v0_ : Value, e = .returned (.tuple #[v0_, .bool r2]) ∧ Kd.R k40 40 w' w.heap.size (fun _ => True) v0_ r1 ∧ Below w.heap.size w w' := by
 have HR0 := Aside0.mk hr0
 have HC0 := Aside0.mk hc0
 clear hr0 hc0
 have HR1 := Aside0.mk hr1
 have HC1 := Aside0.mk hc1
 clear hr1 hc1
 have HB := Aside0.mk (Below.refl w.heap.size w)
 have H : ((spec_SetOk.f k l0).bind fun t521 => (if t521 = true then ((spec_SetOk.f k l1).bind fun t522 => (spec_SetLess.j0 k l0 l1 (!t522))) else (spec_SetLess.j0 k l0 l1 true))) = some (r1, r2) := h
 clear h
 have HC3 := Aside0.mk H
 clear H
 go_enter Try.func32, Try.ntmps32
 go_upto_region 1 with (fail)
 go_cut [13] (fun v13 wc => ∃ (kq : Nat) (x13_2 : Bool), v13 = .bool x13_2 ∧ Aside0 (spec_SetLess.j0 kq l0 l1 x13_2 = some (r1, r2)) ∧ Aside0 (kq ≤ k) ∧ Aside0 (Below w.heap.size w wc))
 case first =>
  have H := HC3.out
  clear HC3
  replace H := bd H
  obtain ⟨t521, A4, H⟩ := H
  replace H : (if t521 = true then ((spec_SetOk.f k l1).bind fun t522 => (spec_SetLess.j0 k l0 l1 (!t522))) else (spec_SetLess.j0 k l0 l1 true)) = some (r1, r2) := H
  by_cases c5 : t521 = true
  ·subst c5
   have H1 : ((spec_SetOk.f k l1).bind fun t522 => (spec_SetLess.j0 k l0 l1 (!t522))) = some (r1, r2) := by rw [if_pos rfl] at H; exact H
   clear H
   have H := H1
   clear H1
   replace H := bd H
   obtain ⟨t522, A6, H⟩ := H
   replace H : (spec_SetLess.j0 k l0 l1 (!t522)) = some (r1, r2) := H
   have H' := Aside0.mk H
   clear H
   go_wp2_with (first | (refine gc (some 7) Try.func28 #[.slice A0 l0.length c0] ?_; (with_reducible refine (spec_SetOk.calls k _ _ l0 true _ ?side1 ?side2 A4.out).mono ?_); (case side1 => exact zz22 HR0); (case side2 => exact HC0.out); rintro e w7 ⟨rfl, hb⟩; refine ⟨_, rfl, ?_⟩; replace HB := Aside0.mk (below_step zz5 hb); clear hb) | (go_at_call 28; (with_reducible refine (spec_SetOk.calls k _ _ l1 t522 _ ?side1 ?side2 A6.out).mono ?_); (case side1 => exact zz22 HR1); (case side2 => exact HC1.out); rintro e w8 ⟨rfl, hb⟩; replace HB := Aside0.mk (below_step zz5 hb); clear hb))
   go_meet
   case rel => exact ⟨_, (!t522), zz1, H', ⟨zz26⟩, ⟨zz5⟩⟩
  ·replace c5 := Bool.eq_false_iff.mpr c5
   subst c5
   have H1 : (spec_SetLess.j0 k l0 l1 true) = some (r1, r2) := by rw [if_neg (show ¬ (false = true) by decide)] at H; exact H
   clear H
   have H := H1
   clear H1
   have H' := Aside0.mk H
   clear H
   go_wp2_with (first | (refine gc (some 7) Try.func28 #[.slice A0 l0.length c0] ?_; (with_reducible refine (spec_SetOk.calls k _ _ l0 false _ ?side1 ?side2 A4.out).mono ?_); (case side1 => exact zz22 HR0); (case side2 => exact HC0.out); rintro e w9 ⟨rfl, hb⟩; refine ⟨_, rfl, ?_⟩; replace HB := Aside0.mk (below_step zz5 hb); clear hb))
   go_meet
   case rel => exact ⟨_, (true), zz1, H', ⟨zz26⟩, ⟨zz5⟩⟩
 case rest =>
  clear HC3
  try clear c1
  try clear c2
  try clear p2
  try clear c3
  try clear c5
  obtain ⟨kq, x13_2, rfl, HA, HJ2, HB⟩ := hcut
  cases kq with
  | zero => exact absurd HA.out (by simp [spec_SetLess.j0])
  | succ kj2 =>
   have H := HA.out
   clear HA
   simp only [spec_SetLess.j0] at H
   by_cases c10 : x13_2 = true
   ·subst c10
    have H1 : (some ((([] : List (S40))), false)) = some (r1, r2) := by rw [if_pos rfl] at H; exact H
    clear H
    have H := H1
    clear H1
    obtain ⟨y523, hy523⟩ : ∃ y_ : List (S40), y_ = (([] : List (S40))) := ⟨_, rfl⟩
    replace H : (some (y523, false)) = some (r1, r2) := by first | (rw [hy523]; with_reducible exact H) | (have H2_ := (Option.bind_some _ _).symm.trans H; rw [hy523]; with_reducible exact H2_) | (have H2_ := (Option.bind_some _ _).symm.trans H; with_reducible exact H2_) | with_reducible exact H | (rw [hy523]; exact H) | exact H
    have Ny523 := Aside0.mk hy523
    clear hy523
    simp only [Option.some.injEq, Prod.mk.injEq] at H
    obtain ⟨rfl, rfl⟩ := H
    go_wp2_with (first | (refine gt 14 ?_; refine rl k40 40 14 ([] : List (S40)) [] ?hp ?_; (case hp => exact zz34); intro v524 w11 ho12 hb hg_ hnew_; clear hg_ hnew_; (first | rw [← Ny523.out] at ho12 | (simp only [Int.reduceToNat] at ho12; rw [← Ny523.out] at ho12)); have HO525 := Aside0.mk (Kd.R_lower ho12 (below_size zz5)); replace HB := Aside0.mk (below_step zz5 hb); clear hb ho12))
    go_ret2
    exact ⟨_, zz8, zz12 HO525, zz5⟩
   ·replace c10 := Bool.eq_false_iff.mpr c10
    subst c10
    have H1 : ((spec_l2Spans.f kj2 l0).bind fun t526 => ((spec_l2Spans.f kj2 l1).bind fun t529 => ((spec_l2Not.f kj2 t529).bind fun t532 => ((spec_l2Both.f kj2 t526 t532).bind fun t535 => ((spec_l2Cover.f kj2 t535).bind fun t538 => ((spec_l2Room.f t538).bind fun bt541 => (some (bt541.1, bt541.2)))))))) = some (r1, r2) := by rw [if_neg (show ¬ (false = true) by decide)] at H; exact H
    clear H
    have H := H1
    clear H1
    replace H := bd H
    obtain ⟨t526, A13, H⟩ := H
    replace H : ((spec_l2Spans.f kj2 l1).bind fun t529 => ((spec_l2Not.f kj2 t529).bind fun t532 => ((spec_l2Both.f kj2 t526 t532).bind fun t535 => ((spec_l2Cover.f kj2 t535).bind fun t538 => ((spec_l2Room.f t538).bind fun bt541 => (some (bt541.1, bt541.2))))))) = some (r1, r2) := H
    replace H := bd H
    obtain ⟨t529, A14, H⟩ := H
    replace H : ((spec_l2Not.f kj2 t529).bind fun t532 => ((spec_l2Both.f kj2 t526 t532).bind fun t535 => ((spec_l2Cover.f kj2 t535).bind fun t538 => ((spec_l2Room.f t538).bind fun bt541 => (some (bt541.1, bt541.2)))))) = some (r1, r2) := H
    replace H := bd H
    obtain ⟨t532, A15, H⟩ := H
    replace H : ((spec_l2Both.f kj2 t526 t532).bind fun t535 => ((spec_l2Cover.f kj2 t535).bind fun t538 => ((spec_l2Room.f t538).bind fun bt541 => (some (bt541.1, bt541.2))))) = some (r1, r2) := H
    replace H := bd H
    obtain ⟨t535, A16, H⟩ := H
    replace H : ((spec_l2Cover.f kj2 t535).bind fun t538 => ((spec_l2Room.f t538).bind fun bt541 => (some (bt541.1, bt541.2)))) = some (r1, r2) := H
    replace H := bd H
    obtain ⟨t538, A17, H⟩ := H
    replace H : ((spec_l2Room.f t538).bind fun bt541 => (some (bt541.1, bt541.2))) = some (r1, r2) := H
    replace H := bd H
    obtain ⟨⟨t541, t544⟩, A18, H⟩ := H
    replace H : (some (t541, t544)) = some (r1, r2) := H
    simp only [Option.some.injEq, Prod.mk.injEq] at H
    obtain ⟨rfl, rfl⟩ := H
    go_wp2_with (first | (refine gc (some 16) Try.func67 #[.slice A0 l0.length c0] ?_; (with_reducible refine (spec_l2Spans.calls kj2 _ _ l0 t526 _ ?side1 ?side2 A13.out).mono ?_); (case side1 => exact zz22 HR0); (case side2 => exact HC0.out); rintro e w19 ⟨v527, rfl, ho0, hb⟩; refine ⟨_, rfl, ?_⟩; have HO528 := Aside0.mk (Kd.R_lower ho0 (below_size zz5)); replace HB := Aside0.mk (below_step zz5 hb); clear hb ho0) | (refine gc (some 18) Try.func67 #[.slice A1 l1.length c1] ?_; (with_reducible refine (spec_l2Spans.calls kj2 _ _ l1 t529 _ ?side1 ?side2 A14.out).mono ?_); (case side1 => exact zz22 HR1); (case side2 => exact HC1.out); rintro e w20 ⟨v530, rfl, ho0, hb⟩; refine ⟨_, rfl, ?_⟩; have HO531 := Aside0.mk (Kd.R_lower (Kd.R_new' ho0 (Kd.R_lt (zz12 HO528))) (below_size zz5)); replace HO528 := Aside0.mk (Kd.R_elder' (zz12 HO528) (Kd.R_base ho0) hb); replace HB := Aside0.mk (below_step zz5 hb); clear hb ho0; obtain ⟨Ao21, co21, eo21⟩ := Kd.R_slice HO531.out; subst eo21) | (refine gc (some 19) Try.func78 #[.slice Ao21 t529.length co21] ?_; (with_reducible refine (spec_l2Not.calls kj2 _ _ t529 t532 _ ?side1 ?side2 A15.out).mono ?_); (case side1 => exact zz20 HO531); (case side2 => exact zz23 HO531); rintro e w22 ⟨v533, rfl, ho0, hb⟩; refine ⟨_, rfl, ?_⟩; have HO534 := Aside0.mk (Kd.R_lower (Kd.R_new' (Kd.R_new' ho0 (Kd.R_lt (zz12 HO528))) (Kd.R_lt (zz12 HO531))) (below_size zz5)); replace HO528 := Aside0.mk (Kd.R_elder' (zz12 HO528) (Kd.R_base ho0) hb); replace HO531 := Aside0.mk (Kd.R_elder' (zz12 HO531) (Kd.R_base ho0) hb); replace HB := Aside0.mk (below_step zz5 hb); clear hb ho0; obtain ⟨Ao23, co23, eo23⟩ := Kd.R_slice HO528.out; subst eo23; obtain ⟨Ao24, co24, eo24⟩ := Kd.R_slice HO534.out; subst eo24) | (refine gc (some 20) Try.func77 #[.slice Ao23 t526.length co23, .slice Ao24 t532.length co24] ?_; (with_reducible refine (spec_l2Both.calls kj2 _ _ t526 _ _ t532 t535 _ ?side1 ?side2 ?side3 ?side4 A16.out).mono ?_); (case side1 => exact zz20 HO528); (case side2 => exact zz23 HO528); (case side3 => exact zz20 HO534); (case side4 => exact zz23 HO534); rintro e w25 ⟨v536, rfl, ho0, hb⟩; refine ⟨_, rfl, ?_⟩; have HO537 := Aside0.mk (Kd.R_lower (Kd.R_new' (Kd.R_new' (Kd.R_new' ho0 (Kd.R_lt (zz12 HO528))) (Kd.R_lt (zz12 HO531))) (Kd.R_lt (zz12 HO534))) (below_size zz5)); replace HO528 := Aside0.mk (Kd.R_elder' (zz12 HO528) (Kd.R_base ho0) hb); replace HO531 := Aside0.mk (Kd.R_elder' (zz12 HO531) (Kd.R_base ho0) hb); replace HO534 := Aside0.mk (Kd.R_elder' (zz12 HO534) (Kd.R_base ho0) hb); replace HB := Aside0.mk (below_step zz5 hb); clear hb ho0; obtain ⟨Ao26, co26, eo26⟩ := Kd.R_slice HO537.out; subst eo26) | (refine gc (some 21) Try.func49 #[.slice Ao26 t535.length co26] ?_; (with_reducible refine (spec_l2Cover.calls kj2 _ _ t535 t538 _ ?side1 ?side2 A17.out).mono ?_); (case side1 => exact zz20 HO537); (case side2 => exact zz23 HO537); rintro e w27 ⟨v539, rfl, ho0, hb⟩; refine ⟨_, rfl, ?_⟩; replace HO528 := Aside0.mk (Kd.R_below (zz12 HO528) hb); replace HO531 := Aside0.mk (Kd.R_below (zz12 HO531) hb); replace HO534 := Aside0.mk (Kd.R_below (zz12 HO534) hb); replace HO537 := Aside0.mk (Kd.R_below (zz12 HO537) hb); have HO540 := Aside0.mk (Kd.R_lower ho0 (below_size zz5)); replace HB := Aside0.mk (below_step zz5 hb); clear hb ho0; obtain ⟨Ao28, co28, eo28⟩ := Kd.R_slice HO540.out; subst eo28) | (refine gc (some 22) Try.func66 #[.slice Ao28 t538.length co28] ?_; (with_reducible refine (spec_l2Room.calls (fun k_ => some k_ = (.slice Ao28 t538.length co28 : Value).ownBlock) (.slice Ao28 t538.length co28) t538 t541 t544 w _ ?side1 ?side2 A18.out).mono ?_); (case side1 => exact zz5); (case side2 => exact Kd.R_tight rfl HO540.out); rintro e w29 ⟨v542, rfl, ho0, hb, hkp⟩; refine ⟨_, rfl, ?_⟩; replace HO528 := Aside0.mk (Kd.R_mono (ok' := fun k_ => some k_ ≠ (.slice Ao21 t529.length co21 : Value).ownBlock ∧ some k_ ≠ (.slice Ao24 t532.length co24 : Value).ownBlock ∧ some k_ ≠ (.slice Ao26 t535.length co26 : Value).ownBlock) (Kd.R_keptB ((Kd.R_apart' HO528.out (Kd.R_typed HO540.out) (by decide))) hkp (fun k_ hk_ hs_ => (hk_.2) hs_)) (fun k_ hk_ => ⟨hk_.1.1.1.1.2, hk_.1.1.1.2, hk_.1.1.2⟩)); replace HO531 := Aside0.mk (Kd.R_mono (ok' := fun k_ => some k_ ≠ (.slice Ao23 t526.length co23 : Value).ownBlock ∧ some k_ ≠ (.slice Ao24 t532.length co24 : Value).ownBlock ∧ some k_ ≠ (.slice Ao26 t535.length co26 : Value).ownBlock) (Kd.R_keptB ((Kd.R_apart' HO531.out (Kd.R_typed HO540.out) (by decide))) hkp (fun k_ hk_ hs_ => (hk_.2) hs_)) (fun k_ hk_ => ⟨hk_.1.1.1.1.2, hk_.1.1.1.2, hk_.1.1.2⟩)); replace HO534 := Aside0.mk (Kd.R_mono (ok' := fun k_ => some k_ ≠ (.slice Ao23 t526.length co23 : Value).ownBlock ∧ some k_ ≠ (.slice Ao21 t529.length co21 : Value).ownBlock ∧ some k_ ≠ (.slice Ao26 t535.length co26 : Value).ownBlock) (Kd.R_keptB ((Kd.R_apart' HO534.out (Kd.R_typed HO540.out) (by decide))) hkp (fun k_ hk_ hs_ => (hk_.2) hs_)) (fun k_ hk_ => ⟨hk_.1.1.1.1.2, hk_.1.1.1.2, hk_.1.1.2⟩)); replace HO537 := Aside0.mk (Kd.R_mono (ok' := fun k_ => some k_ ≠ (.slice Ao23 t526.length co23 : Value).ownBlock ∧ some k_ ≠ (.slice Ao21 t529.length co21 : Value).ownBlock ∧ some k_ ≠ (.slice Ao24 t532.length co24 : Value).ownBlock) (Kd.R_keptB ((Kd.R_apart' HO537.out (Kd.R_typed HO540.out) (by decide))) hkp (fun k_ hk_ hs_ => (hk_.2) hs_)) (fun k_ hk_ => ⟨hk_.1.1.1.1.2, hk_.1.1.1.2, hk_.1.1.2⟩)); have HO543 := Aside0.mk (Kd.R_mono (ok' := fun k_ => True) ho0 (fun k_ hk_ => trivial)); replace HB := Aside0.mk hb; clear HO540 hb hkp ho0))
    go_ret2
    exact ⟨_, zz8, zz12 HO543, zz5⟩
end Go.Proofs.Ythkjkmgbdahggaa.PL
