/- A text printed by this session's wip/myprint.py over the kit's print: contracts of functions of the given program, each at what its Lean function says. -/
import Derived.Test.YthkjkmgbdahggaaGreatPYx0
import Derived.Test.YthkjkmgbdahggaaGreatPYx10
import Derived.Test.YthkjkmgbdahggaaGreatPYx11
namespace Go.Proofs.YthkjkmgbdahggaaGreat.PY
open Go.RowKit Go.Proofs.YthkjkmgbdahggaaGreatW.PrintWords Go.Proofs.YthkjkmgbdahggaaGreatW.PrintLast Go.Proofs.YthkjkmgbdahggaaGreatW.PrintMore Go.Proofs.YthkjkmgbdahggaaGreat.Sq
attribute [local go_sem] max2_int min2_int max_two min_two max_three min_three max_four min_four   -- for this text's walks alone
set_option linter.unusedVariables false
set_option linter.unusedSimpArgs false
mutual
def impl_span_blocks.l0 : Nat → List (S32) → Int → Int → Int → Option ((List (S32)))
 | 0, _, _, _, _ => none
 | k + 1, x3, x4, x354000, x354001 => if x4 ≤ x354001 then (impl_span_blocks.l1 k x3 x4 32 x354000 x354001) else (some x3)
def impl_span_blocks.l1 : Nat → List (S32) → Int → Int → Int → Int → Option ((List (S32)))
 | 0, _, _, _, _, _ => none
 | k + 1, x3, x4, x5, x354000, x354001 => if x5 > 0 then ((impl_around.f x4 (wrap64 (x5 - 1))).bind fun bt354 => (if bt354.1 = x4 then ((impl_around.f x4 (wrap64 (x5 - 1))).bind fun bt356 => ((impl_Block_last.f bt356.1 bt356.2).bind fun t358 => (if t358 ≤ x354001 then (impl_span_blocks.l1 k x3 x4 (wrap64 (x5 - 1)) x354000 x354001) else ((impl_around.f x4 x5).bind fun bt359 => (if x3.length < 8796093022208 then ((some (x3 ++ [(⟨bt359.1, bt359.2⟩ : S32)] : List (S32))).bind fun y361 => (if 0 ≤ (wrap64 ((y361.length : Int) - 1)) then (if (wrap64 ((y361.length : Int) - 1)) < (y361.length : Int) then ((impl_Block_last.f ((rd_T32 y361 (wrap64 ((y361.length : Int) - 1))).f0) ((rd_T32 y361 (wrap64 ((y361.length : Int) - 1))).f1)).bind fun t365 => (impl_span_blocks.l0 k y361 (wrap64 (t365 + 1)) x354000 x354001)) else (none)) else (none))) else (none)))))) else ((impl_around.f x4 x5).bind fun bt366 => (if x3.length < 8796093022208 then ((some (x3 ++ [(⟨bt366.1, bt366.2⟩ : S32)] : List (S32))).bind fun y368 => (if 0 ≤ (wrap64 ((y368.length : Int) - 1)) then (if (wrap64 ((y368.length : Int) - 1)) < (y368.length : Int) then ((impl_Block_last.f ((rd_T32 y368 (wrap64 ((y368.length : Int) - 1))).f0) ((rd_T32 y368 (wrap64 ((y368.length : Int) - 1))).f1)).bind fun t372 => (impl_span_blocks.l0 k y368 (wrap64 (t372 + 1)) x354000 x354001)) else (none)) else (none))) else (none))))) else ((impl_around.f x4 x5).bind fun bt373 => (if x3.length < 8796093022208 then ((some (x3 ++ [(⟨bt373.1, bt373.2⟩ : S32)] : List (S32))).bind fun y375 => (if 0 ≤ (wrap64 ((y375.length : Int) - 1)) then (if (wrap64 ((y375.length : Int) - 1)) < (y375.length : Int) then ((impl_Block_last.f ((rd_T32 y375 (wrap64 ((y375.length : Int) - 1))).f0) ((rd_T32 y375 (wrap64 ((y375.length : Int) - 1))).f1)).bind fun t379 => (impl_span_blocks.l0 k y375 (wrap64 (t379 + 1)) x354000 x354001)) else (none)) else (none))) else (none)))
end
def impl_span_blocks.f (k : Nat) (a0_0 : Int) (a0_1 : Int) : Option ((List (S32))) := impl_span_blocks.l0 k ([] : List (S32)) a0_0 a0_0 a0_1
def impl_span_blocks.T5 : Bool × List (List Nat × List Nat) := (true, [([], []), ([0], [0]), ([1], [1]), ([2], [2]), ([2], [2]), ([4, 2], [2, 4]), ([3, 5, 2, 2], [2, 3, 5]), ([6, 2], [2, 6]), ([2], [2]), ([7, 8, 2], [2, 7, 8]), ([2, 9], [2, 9]), ([10, 6], [10]), ([11], [11]), ([11], [11]), ([13, 11], [11, 13]), ([12, 14, 11, 11], [11, 12, 14]), ([15, 15, 11], [11, 15]), ([11], [11]), ([17, 11], [11, 17]), ([16, 18, 11], [11, 16, 18]), ([11, 19], [11, 19])])
def impl_span_blocks.B5 : List Nat := [0, 1, 3, 7, 7, 23, 63, 127, 7, 511, 1023, 2047, 4095, 4095, 12287, 32767, 65535, 4095, 135167, 524287, 1048575]
theorem impl_span_blocks.tab5 : rtab .any (opsOf Tryz.f46 5) = impl_span_blocks.T5 := by kernel_rfl
theorem impl_span_blocks.bits5 : waitsOk impl_span_blocks.T5.2 impl_span_blocks.B5 = true := by kernel_rfl
set_option maxHeartbeats 8000000 in
set_option maxRecDepth 100000 in
theorem impl_span_blocks.calls (k : Nat) (a0_0 : Int) (a0_1 : Int) (r : List (S32)) (w : World) (h : impl_span_blocks.f k a0_0 a0_1 = some r) :
  Calls Tryz.prog 46 #[.agg #[.int .i64 a0_0, .int .i64 a0_1]] w fun e w' => ∃ v0_ : Value, e = .returned (v0_) ∧ Kd.R k32 32 w' w.heap.size (fun _ => True) v0_ r ∧ Below w.heap.size w w' := by
 have hu50 := Tryz.underlying50
 have hu32 := Tryz.underlying32
 have hfd32_0 := fld32_0
 have HB := Aside0.mk (Below.refl w.heap.size w)
 have H : (impl_span_blocks.l0 k ([] : List (S32)) a0_0 a0_0 a0_1) = some r := h
 clear h
 have H' := Aside0.mk H
 clear H
 go_enter Tryz.func46, Tryz.ntmps46
 go_wp2_with (first | (refine be 1 #[.int .i64 a0_0, .int .i64 a0_1] 50 ?_; intro gb353 hg w2 hbox hb; have BK353 := Aside0.mk hbox; have GW353 := Aside0.mk (zz16 : w.heap.size ≤ gb353); have GE353 := Aside0.mk (zz16 : w.heap.size ≤ gb353); replace HB := Aside0.mk (below_step zz3 hb); clear hb hbox hg; have hcz3_0 : w2.cell? ⟨gb353, 0, none⟩ = some (.int .i64 a0_0) := (blk_cell BK353.out 0).trans rfl; have hcz3_1 : w2.cell? ⟨gb353, 1, none⟩ = some (.int .i64 a0_1) := (blk_cell BK353.out 1).trans rfl; have hfz3_0 := blk_frozen BK353.out 0; have hfz3_1 := blk_frozen BK353.out 1))
 go_loopg [3, 4] k (fun kq v3 v4 w' => ∃ (x3_1 : List (S32)) (x4_1 : Int), v4 = .int .i64 x4_1 ∧ Aside0 (impl_span_blocks.l0 kq x3_1 x4_1 a0_0 a0_1 = some r) ∧ Aside0 (kq ≤ k) ∧ Aside0 (Kd.R k32 32 w' w.heap.size (fun _ => True) v3 x3_1) ∧ Aside0 (w'.heap[gb353]? = some (.cells #[.int .i64 a0_0, .int .i64 a0_1] 50 (0, 0))) ∧ Aside0 (Below w.heap.size w w'))
 case atStart => exact ⟨(([] : List (S32))), (a0_0), zz8, H', ⟨Nat.le_refl _⟩, ⟨zz46⟩, ⟨zz5 BK353⟩, ⟨zz6 GE353⟩⟩
 case round =>
  clear H'
  try clear p2
  try clear hcz3_0
  try clear hcz3_1
  try clear hfz3_0
  try clear hfz3_1
  obtain ⟨x3_1, x4_1, rfl, HA, HK1, HO_3, BK353, HB⟩ := hrel
  cases gk with
  | zero => exact absurd HA.out (by simp [impl_span_blocks.l0])
  | succ k1 =>
   have H := HA.out
   clear HA
   simp only [impl_span_blocks.l0] at H
   replace H := ic H
   rcases H with ⟨c4b0, H⟩ | ⟨c4b0, H⟩
   ·have H' := Aside0.mk H
    clear H
    have hcz5_0 : wr.cell? ⟨gb353, 0, none⟩ = some (.int .i64 a0_0) := (blk_cell BK353.out 0).trans rfl
    have hcz5_1 : wr.cell? ⟨gb353, 1, none⟩ = some (.int .i64 a0_1) := (blk_cell BK353.out 1).trans rfl
    have hfz5_0 := blk_frozen BK353.out 0
    have hfz5_1 := blk_frozen BK353.out 1
    go_wp2
    go_loopg [5] k1 (fun kq v5 w' => ∃ (x5_2 : Int), v5 = .int .i64 x5_2 ∧ Aside0 (impl_span_blocks.l1 kq x3_1 x4_1 x5_2 a0_0 a0_1 = some r) ∧ Aside0 (kq ≤ k1) ∧ Aside0 (Kd.R k32 32 w' w.heap.size (fun _ => True) u3 x3_1) ∧ Aside0 (w'.heap[gb353]? = some (.cells #[.int .i64 a0_0, .int .i64 a0_1] 50 (0, 0))) ∧ Aside0 (Below w.heap.size w w'))
    case atStart => exact ⟨(32), zz8, H', ⟨Nat.le_refl _⟩, ⟨zz22 HO_3⟩, ⟨zz5 BK353⟩, ⟨zz6 GE353⟩⟩
    case round =>
     clear H'
     try clear p2
     try clear c4
     try clear c4b0
     try clear hcz3_0
     try clear hcz3_1
     try clear hcz5_0
     try clear hcz5_1
     try clear hfz3_0
     try clear hfz3_1
     try clear hfz5_0
     try clear hfz5_1
     try clear p2
     obtain ⟨x5_2, rfl, HA, HK2, HO_3, BK353, HB⟩ := hrel
     cases gk with
     | zero => exact absurd HA.out (by simp [impl_span_blocks.l1])
     | succ k2 =>
      have H := HA.out
      clear HA
      simp only [impl_span_blocks.l1] at H
      replace H := ic H
      rcases H with ⟨c6b0, H⟩ | ⟨c6b0, H⟩
      ·replace H := Option.bind_eq_some_iff.mp H
       obtain ⟨⟨t354, t355⟩, A70, H⟩ := H
       replace H : (if t354 = x4_1 then ((impl_around.f x4_1 (wrap64 (x5_2 - 1))).bind fun bt356 => ((impl_Block_last.f bt356.1 bt356.2).bind fun t358 => (if t358 ≤ a0_1 then (impl_span_blocks.l1 k2 x3_1 x4_1 (wrap64 (x5_2 - 1)) a0_0 a0_1) else ((impl_around.f x4_1 x5_2).bind fun bt359 => (if x3_1.length < 8796093022208 then ((some (x3_1 ++ [(⟨bt359.1, bt359.2⟩ : S32)] : List (S32))).bind fun y361 => (if 0 ≤ (wrap64 ((y361.length : Int) - 1)) then (if (wrap64 ((y361.length : Int) - 1)) < (y361.length : Int) then ((impl_Block_last.f ((rd_T32 y361 (wrap64 ((y361.length : Int) - 1))).f0) ((rd_T32 y361 (wrap64 ((y361.length : Int) - 1))).f1)).bind fun t365 => (impl_span_blocks.l0 k2 y361 (wrap64 (t365 + 1)) a0_0 a0_1)) else (none)) else (none))) else (none)))))) else ((impl_around.f x4_1 x5_2).bind fun bt366 => (if x3_1.length < 8796093022208 then ((some (x3_1 ++ [(⟨bt366.1, bt366.2⟩ : S32)] : List (S32))).bind fun y368 => (if 0 ≤ (wrap64 ((y368.length : Int) - 1)) then (if (wrap64 ((y368.length : Int) - 1)) < (y368.length : Int) then ((impl_Block_last.f ((rd_T32 y368 (wrap64 ((y368.length : Int) - 1))).f0) ((rd_T32 y368 (wrap64 ((y368.length : Int) - 1))).f1)).bind fun t372 => (impl_span_blocks.l0 k2 y368 (wrap64 (t372 + 1)) a0_0 a0_1)) else (none)) else (none))) else (none)))) = some r := H
       have A7 := Aside0.mk A70
       clear A70
       by_cases c8 : t354 = x4_1
       ·rw [if_pos c8] at H
        have c8b0 : (t354 == x4_1) = true := beq_iff_eq.mpr c8
        have c8b1 : (t354 != x4_1) = false := bne_eq_false_iff_eq.mpr c8
        clear c8
        replace H := bd H
        obtain ⟨⟨t356, t357⟩, A9, H⟩ := H
        replace H : ((impl_Block_last.f t356 t357).bind fun t358 => (if t358 ≤ a0_1 then (impl_span_blocks.l1 k2 x3_1 x4_1 (wrap64 (x5_2 - 1)) a0_0 a0_1) else ((impl_around.f x4_1 x5_2).bind fun bt359 => (if x3_1.length < 8796093022208 then ((some (x3_1 ++ [(⟨bt359.1, bt359.2⟩ : S32)] : List (S32))).bind fun y361 => (if 0 ≤ (wrap64 ((y361.length : Int) - 1)) then (if (wrap64 ((y361.length : Int) - 1)) < (y361.length : Int) then ((impl_Block_last.f ((rd_T32 y361 (wrap64 ((y361.length : Int) - 1))).f0) ((rd_T32 y361 (wrap64 ((y361.length : Int) - 1))).f1)).bind fun t365 => (impl_span_blocks.l0 k2 y361 (wrap64 (t365 + 1)) a0_0 a0_1)) else (none)) else (none))) else (none))))) = some r := H
        replace H := bd H
        obtain ⟨t358, A10, H⟩ := H
        replace H : (if t358 ≤ a0_1 then (impl_span_blocks.l1 k2 x3_1 x4_1 (wrap64 (x5_2 - 1)) a0_0 a0_1) else ((impl_around.f x4_1 x5_2).bind fun bt359 => (if x3_1.length < 8796093022208 then ((some (x3_1 ++ [(⟨bt359.1, bt359.2⟩ : S32)] : List (S32))).bind fun y361 => (if 0 ≤ (wrap64 ((y361.length : Int) - 1)) then (if (wrap64 ((y361.length : Int) - 1)) < (y361.length : Int) then ((impl_Block_last.f ((rd_T32 y361 (wrap64 ((y361.length : Int) - 1))).f0) ((rd_T32 y361 (wrap64 ((y361.length : Int) - 1))).f1)).bind fun t365 => (impl_span_blocks.l0 k2 y361 (wrap64 (t365 + 1)) a0_0 a0_1)) else (none)) else (none))) else (none)))) = some r := H
        replace H := ic H
        rcases H with ⟨c11b0, H⟩ | ⟨c11b0, H⟩
        ·have H' := Aside0.mk H
         clear H
         try go_wp2
         replace HO_3 := Aside0.mk (Kd.R_drew HO_3.out)
         replace BK353 := Aside0.mk (blk_drew BK353.out)
         replace HB := Aside0.mk (below_drew1 HB.out)
         refine start_ (n := 21) (S := fun w' => w'.cell? ⟨gb353, 0, none⟩ = some (.int .i64 a0_0) ∧ w'.cell? ⟨gb353, 1, none⟩ = some (.int .i64 a0_1)) (ds := []) (bm 21 0) (by kernel_rfl) rfl rfl ⟨(blk_cell BK353.out 0).trans rfl, (blk_cell BK353.out 1).trans rfl⟩ (fun hHeld => ?_); refine with_tabW impl_span_blocks.tab5 impl_span_blocks.bits5 (fun HT_ HW_ => ?_)
         generalize wr.drew = w12 at HO_3 BK353 HB hHeld ⊢
         refine pu 0 12 (bm 21 1) ?_
         refine pu 1 13 (bm 21 3) ?_
         refine pu 2 14 (bm 21 7) ?_
         refine pu 3 15 (bm 21 15) ?_
         refine pu 4 16 (bm 21 31) ?_
         refine pu 5 17 (bm 21 63) ?_
         refine pu 8 20 (bm 21 319) ?_
         refine on 6 (some 18) (bm 21 383) (fun K hK => ?_)
         refine gs Tryz.func65 #[.int .i64 x4_1, .int .i64 (wrap64 (x5_2 - 1))] ?_
         with_reducible refine (impl_around.calls x4_1 (wrap64 (x5_2 - 1)) t354 t355 _ A7.out).mono ?_
         rintro e w13 ⟨rfl, hb⟩
         refine ⟨_, rfl, ?_⟩
         replace HO_3 := Aside0.mk (Kd.R_below (zz22 HO_3) hb)
         replace BK353 := Aside0.mk (blk_below (g := gb353) (o := .cells #[.int .i64 a0_0, .int .i64 a0_1] 50 (0, 0)) (zz5 BK353) hb)
         replace HB := Aside0.mk (below_step (zz6 GE353) hb)
         (try clear hb)
         (try clear hb2)
         (try clear hk)
         (try clear hi)
         refine hK.out _ _ ⟨(blk_cell BK353.out 0).trans rfl, (blk_cell BK353.out 1).trans rfl⟩ (fun hHeld => ?_)
         clear hK K
         refine nm 18 ?_
         refine pu 7 19 (bm 21 511) ?_
         refine pu 9 21 (bm 21 1023) ?_
         refine pu 10 22 (bm 21 2047) ?_
         refine pu 11 23 (bm 21 4095) ?_
         refine pu 12 24 (bm 21 8191) ?_
         refine pu 13 25 (bm 21 16383) ?_
         refine pu 14 26 (bm 21 32767) ?_
         refine pu 17 29 (bm 21 163839) ?_
         refine tk 18 30 (bm 21 425983) ?_
         refine on 15 (some 27) (bm 21 458751) (fun K hK => ?_)
         refine gs Tryz.func65 #[.int .i64 x4_1, .int .i64 (wrap64 (x5_2 - 1))] ?_
         with_reducible refine (impl_around.calls x4_1 (wrap64 (x5_2 - 1)) t356 t357 _ A9.out).mono ?_
         rintro e w14 ⟨rfl, hb⟩
         refine ⟨_, rfl, ?_⟩
         replace HO_3 := Aside0.mk (Kd.R_below (zz22 HO_3) hb)
         replace BK353 := Aside0.mk (blk_below (g := gb353) (o := .cells #[.int .i64 a0_0, .int .i64 a0_1] 50 (0, 0)) (zz5 BK353) hb)
         replace HB := Aside0.mk (below_step (zz6 GE353) hb)
         (try clear hb)
         (try clear hb2)
         (try clear hk)
         (try clear hi)
         refine hK.out _ _ ⟨(blk_cell BK353.out 0).trans rfl, (blk_cell BK353.out 1).trans rfl⟩ (fun hHeld => ?_)
         clear hK K
         refine nm 27 ?_
         refine on 16 (some 28) (bm 21 524287) (fun K hK => ?_)
         refine gs Tryz.func42 #[.agg #[.int .i64 t356, .int .i64 t357]] ?_
         with_reducible refine (impl_Block_last.calls t356 t357 t358 _ A10.out).mono ?_
         rintro e w15 ⟨rfl, hb⟩
         refine ⟨_, rfl, ?_⟩
         replace HO_3 := Aside0.mk (Kd.R_below (zz22 HO_3) hb)
         replace BK353 := Aside0.mk (blk_below (g := gb353) (o := .cells #[.int .i64 a0_0, .int .i64 a0_1] 50 (0, 0)) (zz5 BK353) hb)
         replace HB := Aside0.mk (below_step (zz6 GE353) hb)
         (try clear hb)
         (try clear hb2)
         (try clear hk)
         (try clear hi)
         refine hK.out _ _ ⟨(blk_cell BK353.out 0).trans rfl, (blk_cell BK353.out 1).trans rfl⟩ (fun hHeld => ?_)
         clear hK K
         refine nm 28 ?_
         refine pu 19 31 (bm 21 1048575) ?_
         refine pu 20 32 (bm 21 2097151) ?_
         refine done_ (done_of HT_.out (by kernel_rfl)) ?_
         try go_wp2
         go_roundg k2
         case measure => have := HK1.out; have := HK2.out; omega
         case rel => exact ⟨(wrap64 (x5_2 - 1)), zz8, H', ⟨zz39 HK1 HK2⟩, ⟨zz22 HO_3⟩, ⟨zz5 BK353⟩, ⟨zz6 GE353⟩⟩
        ·replace H := Option.bind_eq_some_iff.mp H
         obtain ⟨⟨t359, t360⟩, A160, H⟩ := H
         replace H : (if x3_1.length < 8796093022208 then ((some (x3_1 ++ [(⟨t359, t360⟩ : S32)] : List (S32))).bind fun y361 => (if 0 ≤ (wrap64 ((y361.length : Int) - 1)) then (if (wrap64 ((y361.length : Int) - 1)) < (y361.length : Int) then ((impl_Block_last.f ((rd_T32 y361 (wrap64 ((y361.length : Int) - 1))).f0) ((rd_T32 y361 (wrap64 ((y361.length : Int) - 1))).f1)).bind fun t365 => (impl_span_blocks.l0 k2 y361 (wrap64 (t365 + 1)) a0_0 a0_1)) else (none)) else (none))) else (none)) = some r := H
         have A16 := Aside0.mk A160
         clear A160
         replace H := gp H
         obtain ⟨c17, H⟩ := H
         have LMc17 := Aside0.mk c17
         clear c17
         obtain ⟨y361, hy361⟩ : ∃ y_ : List (S32), y_ = (x3_1 ++ [(⟨t359, t360⟩ : S32)]) := ⟨_, rfl⟩
         replace H : (if 0 ≤ (wrap64 ((y361.length : Int) - 1)) then (if (wrap64 ((y361.length : Int) - 1)) < (y361.length : Int) then ((impl_Block_last.f ((rd_T32 y361 (wrap64 ((y361.length : Int) - 1))).f0) ((rd_T32 y361 (wrap64 ((y361.length : Int) - 1))).f1)).bind fun t365 => (impl_span_blocks.l0 k2 y361 (wrap64 (t365 + 1)) a0_0 a0_1)) else (none)) else (none)) = some r := by first | (rw [hy361]; with_reducible exact H) | (have H2_ := (Option.bind_some _ _).symm.trans H; rw [hy361]; with_reducible exact H2_) | (have H2_ := (Option.bind_some _ _).symm.trans H; with_reducible exact H2_) | with_reducible exact H | (rw [hy361]; exact H) | exact H
         have Ny361 := Aside0.mk hy361
         clear hy361
         obtain ⟨ji18, hji18⟩ : ∃ j_ : Int, (wrap64 ((y361.length : Int) - 1)) = j_ := ⟨_, rfl⟩
         replace H : (if 0 ≤ (ji18) then (if (ji18) < (y361.length : Int) then ((impl_Block_last.f ((rd_T32 y361 (ji18)).f0) ((rd_T32 y361 (ji18)).f1)).bind fun t365 => (impl_span_blocks.l0 k2 y361 (wrap64 (t365 + 1)) a0_0 a0_1)) else (none)) else (none)) = some r := by first | (rw [hji18] at H; exact H) | (simp only [hji18] at H ⊢; exact H)
         (try rw [hji18] at A7)
         (try rw [hji18] at A9)
         (try rw [hji18] at A10)
         (try rw [hji18] at A16)
         have hji18w : (IntKind.i64.wrap ((y361.length : Int) - 1)) = ji18 := (i64_w _).trans hji18
         replace H := gd H
         obtain ⟨c19b0, H⟩ := H
         replace H := gd H
         obtain ⟨c20b0, H⟩ := H
         replace H := bd H
         obtain ⟨t365, A21, H⟩ := H
         replace H : (impl_span_blocks.l0 k2 y361 (wrap64 (t365 + 1)) a0_0 a0_1) = some r := H
         have H' := Aside0.mk H
         clear H
         try go_wp2
         replace HO_3 := Aside0.mk (Kd.R_drew HO_3.out)
         replace BK353 := Aside0.mk (blk_drew BK353.out)
         replace HB := Aside0.mk (below_drew1 HB.out)
         refine start_ (n := 21) (S := fun w' => w'.cell? ⟨gb353, 0, none⟩ = some (.int .i64 a0_0) ∧ w'.cell? ⟨gb353, 1, none⟩ = some (.int .i64 a0_1)) (ds := []) (bm 21 0) (by kernel_rfl) rfl rfl ⟨(blk_cell BK353.out 0).trans rfl, (blk_cell BK353.out 1).trans rfl⟩ (fun hHeld => ?_); refine with_tabW impl_span_blocks.tab5 impl_span_blocks.bits5 (fun HT_ HW_ => ?_)
         generalize wr.drew = w22 at HO_3 BK353 HB hHeld ⊢
         refine pu 0 12 (bm 21 1) ?_
         refine pu 1 13 (bm 21 3) ?_
         refine pu 2 14 (bm 21 7) ?_
         refine pu 3 15 (bm 21 15) ?_
         refine pu 4 16 (bm 21 31) ?_
         refine pu 5 17 (bm 21 63) ?_
         refine pu 8 20 (bm 21 319) ?_
         refine on 6 (some 18) (bm 21 383) (fun K hK => ?_)
         refine gs Tryz.func65 #[.int .i64 x4_1, .int .i64 (wrap64 (x5_2 - 1))] ?_
         with_reducible refine (impl_around.calls x4_1 (wrap64 (x5_2 - 1)) t354 t355 _ A7.out).mono ?_
         rintro e w23 ⟨rfl, hb⟩
         refine ⟨_, rfl, ?_⟩
         replace HO_3 := Aside0.mk (Kd.R_below (zz22 HO_3) hb)
         replace BK353 := Aside0.mk (blk_below (g := gb353) (o := .cells #[.int .i64 a0_0, .int .i64 a0_1] 50 (0, 0)) (zz5 BK353) hb)
         replace HB := Aside0.mk (below_step (zz6 GE353) hb)
         (try clear hb)
         (try clear hb2)
         (try clear hk)
         (try clear hi)
         refine hK.out _ _ ⟨(blk_cell BK353.out 0).trans rfl, (blk_cell BK353.out 1).trans rfl⟩ (fun hHeld => ?_)
         clear hK K
         refine nm 18 ?_
         refine pu 7 19 (bm 21 511) ?_
         refine pu 9 21 (bm 21 1023) ?_
         refine pu 10 22 (bm 21 2047) ?_
         refine pu 11 23 (bm 21 4095) ?_
         refine pu 12 24 (bm 21 8191) ?_
         refine pu 13 25 (bm 21 16383) ?_
         refine pu 14 26 (bm 21 32767) ?_
         refine pu 17 29 (bm 21 163839) ?_
         refine tk 18 30 (bm 21 425983) ?_
         refine on 15 (some 27) (bm 21 458751) (fun K hK => ?_)
         refine gs Tryz.func65 #[.int .i64 x4_1, .int .i64 (wrap64 (x5_2 - 1))] ?_
         with_reducible refine (impl_around.calls x4_1 (wrap64 (x5_2 - 1)) t356 t357 _ A9.out).mono ?_
         rintro e w24 ⟨rfl, hb⟩
         refine ⟨_, rfl, ?_⟩
         replace HO_3 := Aside0.mk (Kd.R_below (zz22 HO_3) hb)
         replace BK353 := Aside0.mk (blk_below (g := gb353) (o := .cells #[.int .i64 a0_0, .int .i64 a0_1] 50 (0, 0)) (zz5 BK353) hb)
         replace HB := Aside0.mk (below_step (zz6 GE353) hb)
         (try clear hb)
         (try clear hb2)
         (try clear hk)
         (try clear hi)
         refine hK.out _ _ ⟨(blk_cell BK353.out 0).trans rfl, (blk_cell BK353.out 1).trans rfl⟩ (fun hHeld => ?_)
         clear hK K
         refine nm 27 ?_
         refine on 16 (some 28) (bm 21 524287) (fun K hK => ?_)
         refine gs Tryz.func42 #[.agg #[.int .i64 t356, .int .i64 t357]] ?_
         with_reducible refine (impl_Block_last.calls t356 t357 t358 _ A10.out).mono ?_
         rintro e w25 ⟨rfl, hb⟩
         refine ⟨_, rfl, ?_⟩
         replace HO_3 := Aside0.mk (Kd.R_below (zz22 HO_3) hb)
         replace BK353 := Aside0.mk (blk_below (g := gb353) (o := .cells #[.int .i64 a0_0, .int .i64 a0_1] 50 (0, 0)) (zz5 BK353) hb)
         replace HB := Aside0.mk (below_step (zz6 GE353) hb)
         (try clear hb)
         (try clear hb2)
         (try clear hk)
         (try clear hi)
         refine hK.out _ _ ⟨(blk_cell BK353.out 0).trans rfl, (blk_cell BK353.out 1).trans rfl⟩ (fun hHeld => ?_)
         clear hK K
         refine nm 28 ?_
         refine pu 19 31 (bm 21 1048575) ?_
         refine pu 20 32 (bm 21 2097151) ?_
         refine done_ (done_of HT_.out (by kernel_rfl)) ?_
         try go_wp2_with (first | (refine gc (some 38) Tryz.func65 #[.int .i64 x4_1, .int .i64 x5_2] ?_; (with_reducible refine (impl_around.calls x4_1 x5_2 t359 t360 _ A16.out).mono ?_); rintro e w26 ⟨rfl, hb⟩; refine ⟨_, rfl, ?_⟩; replace HO_3 := Aside0.mk (Kd.R_below (zz22 HO_3) hb); replace BK353 := Aside0.mk (blk_below (g := gb353) (o := .cells #[.int .i64 a0_0, .int .i64 a0_1] 50 (0, 0)) (zz5 BK353) hb); replace HB := Aside0.mk (below_step (zz6 GE353) hb); clear hb) | ((with_reducible refine gate_builtin (b := .append) (xs := #[.tmp 35, .tmp 39]) rfl ?_); at_builtin; refine Kd.R_append k32 (w0 := w) w.heap.size rfl (.tmp 35) (.tmp 39) 26 32 (.agg #[(.int .i64 0), (.int .i64 0)]) 16 rfl Tryz.underlying26 info32 rfl (by decide) (by omega) u3 x3_1 (⟨t359, t360⟩ : S32) [.int .i64 t359, .int .i64 t360] (fun _ => True) (fun _ => False) rfl rfl ?aP (fun _ hk => hk.elim) ?aF ?aO ?aB ?aS ?aL ?_; (case aP => exact k32_mkM _ _ _ (⟨t359, t360⟩ : S32)); (case aB => exact zz6 GE353); (case aF => exact zz21); (case aO => exact zz22 HO_3); (case aS => exact zz27 GE353); (case aL => exact zz15 LMc17); intro v362 w27 ho hb hg hat; rw [← Ny361.out] at ho; replace BK353 := Aside0.mk (blk_grown (g := gb353) (o := .cells #[.int .i64 a0_0, .int .i64 a0_1] 50 (0, 0)) (zz5 BK353) hg (Kd.R_ne HO_3.out BK353.out (by decide))); replace HB := Aside0.mk hb; have HO363 := Aside0.mk ho; clear HO_3 ho hb hg hat; obtain ⟨Ao28, co28, eo28⟩ := Kd.R_slice HO363.out; subst eo28; obtain ⟨⟨ad364, e364, hx364_0, hx364_1⟩, p364, q364⟩ := wi (at_T32 (Kd.R_reads' HO363.out).2.2 (ji18)); cases e364) | ((with_reducible refine gate_callee (f := 42) rfl ?_); refine goesL_ (some 47) rfl rfl Tryz.func42 (by kernel_rfl) rfl #[.agg #[.int .i64 ((rd_T32 y361 (ji18)).f0), .int .i64 ((rd_T32 y361 (ji18)).f1)]] rfl (by (try simp only [List.map_toArray, List.map_cons, List.map_nil]); first | done | (simp only [hji18]; rfl) | rfl | (simp only [List.length_drop, List.length_take]; rfl)) ?_; (with_reducible refine (impl_Block_last.calls ((rd_T32 y361 (ji18)).f0) ((rd_T32 y361 (ji18)).f1) t365 _ A21.out).mono ?_); rintro e w29 ⟨rfl, hb⟩; refine ⟨_, rfl, ?_⟩; replace HO363 := Aside0.mk (Kd.R_below (zz22 HO363) hb); replace BK353 := Aside0.mk (blk_below (g := gb353) (o := .cells #[.int .i64 a0_0, .int .i64 a0_1] 50 (0, 0)) (zz5 BK353) hb); replace HB := Aside0.mk (below_step (zz6 GE353) hb); clear hb))
         go_roundg k2
         case measure => have := HK1.out; have := HK2.out; omega
         case rel => exact ⟨(y361), (wrap64 (t365 + 1)), zz8, H', ⟨zz39 HK1 HK2⟩, ⟨zz22 HO363⟩, ⟨zz5 BK353⟩, ⟨zz6 GE353⟩⟩
       ·rw [if_neg c8] at H
        have c8b0 : (t354 == x4_1) = false := beq_eq_false_iff_ne.mpr c8
        have c8b1 : (t354 != x4_1) = true := bne_iff_ne.mpr c8
        replace H := bd H
        obtain ⟨⟨t366, t367⟩, A30, H⟩ := H
        replace H : (if x3_1.length < 8796093022208 then ((some (x3_1 ++ [(⟨t366, t367⟩ : S32)] : List (S32))).bind fun y368 => (if 0 ≤ (wrap64 ((y368.length : Int) - 1)) then (if (wrap64 ((y368.length : Int) - 1)) < (y368.length : Int) then ((impl_Block_last.f ((rd_T32 y368 (wrap64 ((y368.length : Int) - 1))).f0) ((rd_T32 y368 (wrap64 ((y368.length : Int) - 1))).f1)).bind fun t372 => (impl_span_blocks.l0 k2 y368 (wrap64 (t372 + 1)) a0_0 a0_1)) else (none)) else (none))) else (none)) = some r := H
        replace H := gp H
        obtain ⟨c31, H⟩ := H
        have LMc31 := Aside0.mk c31
        clear c31
        obtain ⟨y368, hy368⟩ : ∃ y_ : List (S32), y_ = (x3_1 ++ [(⟨t366, t367⟩ : S32)]) := ⟨_, rfl⟩
        replace H : (if 0 ≤ (wrap64 ((y368.length : Int) - 1)) then (if (wrap64 ((y368.length : Int) - 1)) < (y368.length : Int) then ((impl_Block_last.f ((rd_T32 y368 (wrap64 ((y368.length : Int) - 1))).f0) ((rd_T32 y368 (wrap64 ((y368.length : Int) - 1))).f1)).bind fun t372 => (impl_span_blocks.l0 k2 y368 (wrap64 (t372 + 1)) a0_0 a0_1)) else (none)) else (none)) = some r := by first | (rw [hy368]; with_reducible exact H) | (have H2_ := (Option.bind_some _ _).symm.trans H; rw [hy368]; with_reducible exact H2_) | (have H2_ := (Option.bind_some _ _).symm.trans H; with_reducible exact H2_) | with_reducible exact H | (rw [hy368]; exact H) | exact H
        have Ny368 := Aside0.mk hy368
        clear hy368
        obtain ⟨ji32, hji32⟩ : ∃ j_ : Int, (wrap64 ((y368.length : Int) - 1)) = j_ := ⟨_, rfl⟩
        replace H : (if 0 ≤ (ji32) then (if (ji32) < (y368.length : Int) then ((impl_Block_last.f ((rd_T32 y368 (ji32)).f0) ((rd_T32 y368 (ji32)).f1)).bind fun t372 => (impl_span_blocks.l0 k2 y368 (wrap64 (t372 + 1)) a0_0 a0_1)) else (none)) else (none)) = some r := by first | (rw [hji32] at H; exact H) | (simp only [hji32] at H ⊢; exact H)
        (try rw [hji32] at A7)
        (try rw [hji32] at A30)
        have hji32w : (IntKind.i64.wrap ((y368.length : Int) - 1)) = ji32 := (i64_w _).trans hji32
        replace H := gd H
        obtain ⟨c33b0, H⟩ := H
        replace H := gd H
        obtain ⟨c34b0, H⟩ := H
        replace H := bd H
        obtain ⟨t372, A35, H⟩ := H
        replace H : (impl_span_blocks.l0 k2 y368 (wrap64 (t372 + 1)) a0_0 a0_1) = some r := H
        have H' := Aside0.mk H
        clear H
        try go_wp2
        replace HO_3 := Aside0.mk (Kd.R_drew HO_3.out)
        replace BK353 := Aside0.mk (blk_drew BK353.out)
        replace HB := Aside0.mk (below_drew1 HB.out)
        refine start_ (n := 21) (S := fun w' => True) (ds := []) (bm 21 0) (by kernel_rfl) rfl rfl trivial (fun hHeld => ?_); refine with_tabW impl_span_blocks.tab5 impl_span_blocks.bits5 (fun HT_ HW_ => ?_)
        generalize wr.drew = w36 at HO_3 BK353 HB hHeld ⊢
        refine pu 0 12 (bm 21 1) ?_
        refine pu 1 13 (bm 21 3) ?_
        refine pu 2 14 (bm 21 7) ?_
        refine pu 3 15 (bm 21 15) ?_
        refine pu 4 16 (bm 21 31) ?_
        refine pu 5 17 (bm 21 63) ?_
        refine pu 8 20 (bm 21 319) ?_
        refine on 6 (some 18) (bm 21 383) (fun K hK => ?_)
        refine gs Tryz.func65 #[.int .i64 x4_1, .int .i64 (wrap64 (x5_2 - 1))] ?_
        with_reducible refine (impl_around.calls x4_1 (wrap64 (x5_2 - 1)) t354 t355 _ A7.out).mono ?_
        rintro e w37 ⟨rfl, hb⟩
        refine ⟨_, rfl, ?_⟩
        replace HO_3 := Aside0.mk (Kd.R_below (zz22 HO_3) hb)
        replace BK353 := Aside0.mk (blk_below (g := gb353) (o := .cells #[.int .i64 a0_0, .int .i64 a0_1] 50 (0, 0)) (zz5 BK353) hb)
        replace HB := Aside0.mk (below_step (zz6 GE353) hb)
        (try clear hb)
        (try clear hb2)
        (try clear hk)
        (try clear hi)
        refine hK.out _ _ trivial (fun hHeld => ?_)
        clear hK K
        refine nm 18 ?_
        refine pu 7 19 (bm 21 511) ?_
        refine pu 9 21 (bm 21 1023) ?_
        refine pu 10 22 (bm 21 2047) ?_
        refine pu 11 23 (bm 21 4095) ?_
        refine po 12 24 (bm 21 8191) ?_
        refine po 13 25 (bm 21 16383) ?_
        refine po 14 26 (bm 21 32767) ?_
        refine po 15 27 (bm 21 65535) ?_
        refine po 16 28 (bm 21 131071) ?_
        refine po 17 29 (bm 21 262143) ?_
        refine po 18 30 (bm 21 524287) ?_
        refine po 19 31 (bm 21 1048575) ?_
        refine pu 20 32 (bm 21 2097151) ?_
        refine done_ (done_of HT_.out (by kernel_rfl)) ?_
        try go_wp2_with (first | (refine gc (some 38) Tryz.func65 #[.int .i64 x4_1, .int .i64 x5_2] ?_; (with_reducible refine (impl_around.calls x4_1 x5_2 t366 t367 _ A30.out).mono ?_); rintro e w38 ⟨rfl, hb⟩; refine ⟨_, rfl, ?_⟩; replace HO_3 := Aside0.mk (Kd.R_below (zz22 HO_3) hb); replace BK353 := Aside0.mk (blk_below (g := gb353) (o := .cells #[.int .i64 a0_0, .int .i64 a0_1] 50 (0, 0)) (zz5 BK353) hb); replace HB := Aside0.mk (below_step (zz6 GE353) hb); clear hb) | ((with_reducible refine gate_builtin (b := .append) (xs := #[.tmp 35, .tmp 39]) rfl ?_); at_builtin; refine Kd.R_append k32 (w0 := w) w.heap.size rfl (.tmp 35) (.tmp 39) 26 32 (.agg #[(.int .i64 0), (.int .i64 0)]) 16 rfl Tryz.underlying26 info32 rfl (by decide) (by omega) u3 x3_1 (⟨t366, t367⟩ : S32) [.int .i64 t366, .int .i64 t367] (fun _ => True) (fun _ => False) rfl rfl ?aP (fun _ hk => hk.elim) ?aF ?aO ?aB ?aS ?aL ?_; (case aP => exact k32_mkM _ _ _ (⟨t366, t367⟩ : S32)); (case aB => exact zz6 GE353); (case aF => exact zz21); (case aO => exact zz22 HO_3); (case aS => exact zz27 GE353); (case aL => exact zz15 LMc31); intro v369 w39 ho hb hg hat; rw [← Ny368.out] at ho; replace BK353 := Aside0.mk (blk_grown (g := gb353) (o := .cells #[.int .i64 a0_0, .int .i64 a0_1] 50 (0, 0)) (zz5 BK353) hg (Kd.R_ne HO_3.out BK353.out (by decide))); replace HB := Aside0.mk hb; have HO370 := Aside0.mk ho; clear HO_3 ho hb hg hat; obtain ⟨Ao40, co40, eo40⟩ := Kd.R_slice HO370.out; subst eo40; obtain ⟨⟨ad371, e371, hx371_0, hx371_1⟩, p371, q371⟩ := wi (at_T32 (Kd.R_reads' HO370.out).2.2 (ji32)); cases e371) | ((with_reducible refine gate_callee (f := 42) rfl ?_); refine goesL_ (some 47) rfl rfl Tryz.func42 (by kernel_rfl) rfl #[.agg #[.int .i64 ((rd_T32 y368 (ji32)).f0), .int .i64 ((rd_T32 y368 (ji32)).f1)]] rfl (by (try simp only [List.map_toArray, List.map_cons, List.map_nil]); first | done | (simp only [hji32]; rfl) | rfl | (simp only [List.length_drop, List.length_take]; rfl)) ?_; (with_reducible refine (impl_Block_last.calls ((rd_T32 y368 (ji32)).f0) ((rd_T32 y368 (ji32)).f1) t372 _ A35.out).mono ?_); rintro e w41 ⟨rfl, hb⟩; refine ⟨_, rfl, ?_⟩; replace HO370 := Aside0.mk (Kd.R_below (zz22 HO370) hb); replace BK353 := Aside0.mk (blk_below (g := gb353) (o := .cells #[.int .i64 a0_0, .int .i64 a0_1] 50 (0, 0)) (zz5 BK353) hb); replace HB := Aside0.mk (below_step (zz6 GE353) hb); clear hb))
        go_roundg k2
        case measure => have := HK1.out; have := HK2.out; omega
        case rel => exact ⟨(y368), (wrap64 (t372 + 1)), zz8, H', ⟨zz39 HK1 HK2⟩, ⟨zz22 HO370⟩, ⟨zz5 BK353⟩, ⟨zz6 GE353⟩⟩
      ·replace H := Option.bind_eq_some_iff.mp H
       obtain ⟨⟨t373, t374⟩, A420, H⟩ := H
       replace H : (if x3_1.length < 8796093022208 then ((some (x3_1 ++ [(⟨t373, t374⟩ : S32)] : List (S32))).bind fun y375 => (if 0 ≤ (wrap64 ((y375.length : Int) - 1)) then (if (wrap64 ((y375.length : Int) - 1)) < (y375.length : Int) then ((impl_Block_last.f ((rd_T32 y375 (wrap64 ((y375.length : Int) - 1))).f0) ((rd_T32 y375 (wrap64 ((y375.length : Int) - 1))).f1)).bind fun t379 => (impl_span_blocks.l0 k2 y375 (wrap64 (t379 + 1)) a0_0 a0_1)) else (none)) else (none))) else (none)) = some r := H
       have A42 := Aside0.mk A420
       clear A420
       replace H := gp H
       obtain ⟨c43, H⟩ := H
       have LMc43 := Aside0.mk c43
       clear c43
       obtain ⟨y375, hy375⟩ : ∃ y_ : List (S32), y_ = (x3_1 ++ [(⟨t373, t374⟩ : S32)]) := ⟨_, rfl⟩
       replace H : (if 0 ≤ (wrap64 ((y375.length : Int) - 1)) then (if (wrap64 ((y375.length : Int) - 1)) < (y375.length : Int) then ((impl_Block_last.f ((rd_T32 y375 (wrap64 ((y375.length : Int) - 1))).f0) ((rd_T32 y375 (wrap64 ((y375.length : Int) - 1))).f1)).bind fun t379 => (impl_span_blocks.l0 k2 y375 (wrap64 (t379 + 1)) a0_0 a0_1)) else (none)) else (none)) = some r := by first | (rw [hy375]; with_reducible exact H) | (have H2_ := (Option.bind_some _ _).symm.trans H; rw [hy375]; with_reducible exact H2_) | (have H2_ := (Option.bind_some _ _).symm.trans H; with_reducible exact H2_) | with_reducible exact H | (rw [hy375]; exact H) | exact H
       have Ny375 := Aside0.mk hy375
       clear hy375
       obtain ⟨ji44, hji44⟩ : ∃ j_ : Int, (wrap64 ((y375.length : Int) - 1)) = j_ := ⟨_, rfl⟩
       replace H : (if 0 ≤ (ji44) then (if (ji44) < (y375.length : Int) then ((impl_Block_last.f ((rd_T32 y375 (ji44)).f0) ((rd_T32 y375 (ji44)).f1)).bind fun t379 => (impl_span_blocks.l0 k2 y375 (wrap64 (t379 + 1)) a0_0 a0_1)) else (none)) else (none)) = some r := by first | (rw [hji44] at H; exact H) | (simp only [hji44] at H ⊢; exact H)
       (try rw [hji44] at A42)
       have hji44w : (IntKind.i64.wrap ((y375.length : Int) - 1)) = ji44 := (i64_w _).trans hji44
       replace H := gd H
       obtain ⟨c45b0, H⟩ := H
       replace H := gd H
       obtain ⟨c46b0, H⟩ := H
       replace H := bd H
       obtain ⟨t379, A47, H⟩ := H
       replace H : (impl_span_blocks.l0 k2 y375 (wrap64 (t379 + 1)) a0_0 a0_1) = some r := H
       have H' := Aside0.mk H
       clear H
       try go_wp2
       replace HO_3 := Aside0.mk (Kd.R_drew HO_3.out)
       replace BK353 := Aside0.mk (blk_drew BK353.out)
       replace HB := Aside0.mk (below_drew1 HB.out)
       refine start_ (n := 21) (S := fun w' => True) (ds := []) (bm 21 0) (by kernel_rfl) rfl rfl trivial (fun hHeld => ?_); refine with_tabW impl_span_blocks.tab5 impl_span_blocks.bits5 (fun HT_ HW_ => ?_)
       generalize wr.drew = w48 at HO_3 BK353 HB hHeld ⊢
       refine pu 0 12 (bm 21 1) ?_
       refine pu 1 13 (bm 21 3) ?_
       refine pu 2 14 (bm 21 7) ?_
       refine po 3 15 (bm 21 15) ?_
       refine po 4 16 (bm 21 31) ?_
       refine po 5 17 (bm 21 63) ?_
       refine po 6 18 (bm 21 127) ?_
       refine po 7 19 (bm 21 255) ?_
       refine po 8 20 (bm 21 511) ?_
       refine po 9 21 (bm 21 1023) ?_
       refine pu 10 22 (bm 21 2047) ?_
       refine pu 11 23 (bm 21 4095) ?_
       refine po 12 24 (bm 21 8191) ?_
       refine po 13 25 (bm 21 16383) ?_
       refine po 14 26 (bm 21 32767) ?_
       refine po 15 27 (bm 21 65535) ?_
       refine po 16 28 (bm 21 131071) ?_
       refine po 17 29 (bm 21 262143) ?_
       refine po 18 30 (bm 21 524287) ?_
       refine po 19 31 (bm 21 1048575) ?_
       refine pu 20 32 (bm 21 2097151) ?_
       refine done_ (done_of HT_.out (by kernel_rfl)) ?_
       try go_wp2_with (first | (refine gc (some 38) Tryz.func65 #[.int .i64 x4_1, .int .i64 x5_2] ?_; (with_reducible refine (impl_around.calls x4_1 x5_2 t373 t374 _ A42.out).mono ?_); rintro e w49 ⟨rfl, hb⟩; refine ⟨_, rfl, ?_⟩; replace HO_3 := Aside0.mk (Kd.R_below (zz22 HO_3) hb); replace BK353 := Aside0.mk (blk_below (g := gb353) (o := .cells #[.int .i64 a0_0, .int .i64 a0_1] 50 (0, 0)) (zz5 BK353) hb); replace HB := Aside0.mk (below_step (zz6 GE353) hb); clear hb) | ((with_reducible refine gate_builtin (b := .append) (xs := #[.tmp 35, .tmp 39]) rfl ?_); at_builtin; refine Kd.R_append k32 (w0 := w) w.heap.size rfl (.tmp 35) (.tmp 39) 26 32 (.agg #[(.int .i64 0), (.int .i64 0)]) 16 rfl Tryz.underlying26 info32 rfl (by decide) (by omega) u3 x3_1 (⟨t373, t374⟩ : S32) [.int .i64 t373, .int .i64 t374] (fun _ => True) (fun _ => False) rfl rfl ?aP (fun _ hk => hk.elim) ?aF ?aO ?aB ?aS ?aL ?_; (case aP => exact k32_mkM _ _ _ (⟨t373, t374⟩ : S32)); (case aB => exact zz6 GE353); (case aF => exact zz21); (case aO => exact zz22 HO_3); (case aS => exact zz27 GE353); (case aL => exact zz15 LMc43); intro v376 w50 ho hb hg hat; rw [← Ny375.out] at ho; replace BK353 := Aside0.mk (blk_grown (g := gb353) (o := .cells #[.int .i64 a0_0, .int .i64 a0_1] 50 (0, 0)) (zz5 BK353) hg (Kd.R_ne HO_3.out BK353.out (by decide))); replace HB := Aside0.mk hb; have HO377 := Aside0.mk ho; clear HO_3 ho hb hg hat; obtain ⟨Ao51, co51, eo51⟩ := Kd.R_slice HO377.out; subst eo51; obtain ⟨⟨ad378, e378, hx378_0, hx378_1⟩, p378, q378⟩ := wi (at_T32 (Kd.R_reads' HO377.out).2.2 (ji44)); cases e378) | ((with_reducible refine gate_callee (f := 42) rfl ?_); refine goesL_ (some 47) rfl rfl Tryz.func42 (by kernel_rfl) rfl #[.agg #[.int .i64 ((rd_T32 y375 (ji44)).f0), .int .i64 ((rd_T32 y375 (ji44)).f1)]] rfl (by (try simp only [List.map_toArray, List.map_cons, List.map_nil]); first | done | (simp only [hji44]; rfl) | rfl | (simp only [List.length_drop, List.length_take]; rfl)) ?_; (with_reducible refine (impl_Block_last.calls ((rd_T32 y375 (ji44)).f0) ((rd_T32 y375 (ji44)).f1) t379 _ A47.out).mono ?_); rintro e w52 ⟨rfl, hb⟩; refine ⟨_, rfl, ?_⟩; replace HO377 := Aside0.mk (Kd.R_below (zz22 HO377) hb); replace BK353 := Aside0.mk (blk_below (g := gb353) (o := .cells #[.int .i64 a0_0, .int .i64 a0_1] 50 (0, 0)) (zz5 BK353) hb); replace HB := Aside0.mk (below_step (zz6 GE353) hb); clear hb))
       go_roundg k2
       case measure => have := HK1.out; have := HK2.out; omega
       case rel => exact ⟨(y375), (wrap64 (t379 + 1)), zz8, H', ⟨zz39 HK1 HK2⟩, ⟨zz22 HO377⟩, ⟨zz5 BK353⟩, ⟨zz6 GE353⟩⟩
   ·obtain rfl := Option.some.inj H
    have hcz53_0 : wr.cell? ⟨gb353, 0, none⟩ = some (.int .i64 a0_0) := (blk_cell BK353.out 0).trans rfl
    have hcz53_1 : wr.cell? ⟨gb353, 1, none⟩ = some (.int .i64 a0_1) := (blk_cell BK353.out 1).trans rfl
    have hfz53_0 := blk_frozen BK353.out 0
    have hfz53_1 := blk_frozen BK353.out 1
    go_wp2
    go_ret
    exact ⟨_, zz13, zz22 HO_3, zz6 GE353⟩
end Go.Proofs.YthkjkmgbdahggaaGreat.PY
