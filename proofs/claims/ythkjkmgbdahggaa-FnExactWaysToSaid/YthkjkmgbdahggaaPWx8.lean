/- A text printed by this session's wip/myprint.py over the kit's print: contracts of functions of the given program, each at what its Lean function says. -/
import Derived.Test.YthkjkmgbdahggaaPWx0
import Derived.Test.YthkjkmgbdahggaaPWx7
namespace Go.Proofs.Ythkjkmgbdahggaa.PW
open Go.RowKit Go.Proofs.YthkjkmgbdahggaaW.PrintWords Go.Proofs.YthkjkmgbdahggaaW.PrintLast Go.Proofs.YthkjkmgbdahggaaW.PrintMore Go.Proofs.Ythkjkmgbdahggaa.Sq
attribute [local go_sem] max2_int min2_int max_two min_two max_three min_three max_four min_four   -- for this text's walks alone
set_option linter.unusedVariables false
set_option linter.unusedSimpArgs false

/-! ### impl_span_blocks: function 47 -/
mutual
def impl_span_blocks.l0 : Nat → List (S40) → Int → Int → Int → Option ((List (S40)))
 | 0, _, _, _, _ => none
 | k + 1, x3, x4, x276000, x276001 => if x4 ≤ x276001 then (impl_span_blocks.l1 k x3 x4 32 x276000 x276001) else (some x3)
def impl_span_blocks.l1 : Nat → List (S40) → Int → Int → Int → Int → Option ((List (S40)))
 | 0, _, _, _, _, _ => none
 | k + 1, x3, x4, x5, x276000, x276001 => if x5 > 0 then ((impl_around.f x4 (wrap64 (x5 - 1))).bind fun bt276 => (if bt276.1 = x4 then ((impl_around.f x4 (wrap64 (x5 - 1))).bind fun bt278 => ((impl_Block_last.f bt278.1 bt278.2).bind fun t280 => (if t280 ≤ x276001 then (impl_span_blocks.l1 k x3 x4 (wrap64 (x5 - 1)) x276000 x276001) else ((impl_around.f x4 x5).bind fun bt281 => (if x3.length < 8796093022208 then ((some (x3 ++ [(⟨bt281.1, bt281.2⟩ : S40)] : List (S40))).bind fun y283 => (if 0 ≤ (wrap64 ((y283.length : Int) - 1)) then (if (wrap64 ((y283.length : Int) - 1)) < (y283.length : Int) then ((impl_Block_last.f ((rd_T40 y283 (wrap64 ((y283.length : Int) - 1))).f0) ((rd_T40 y283 (wrap64 ((y283.length : Int) - 1))).f1)).bind fun t287 => (impl_span_blocks.l0 k y283 (wrap64 (t287 + 1)) x276000 x276001)) else (none)) else (none))) else (none)))))) else ((impl_around.f x4 x5).bind fun bt288 => (if x3.length < 8796093022208 then ((some (x3 ++ [(⟨bt288.1, bt288.2⟩ : S40)] : List (S40))).bind fun y290 => (if 0 ≤ (wrap64 ((y290.length : Int) - 1)) then (if (wrap64 ((y290.length : Int) - 1)) < (y290.length : Int) then ((impl_Block_last.f ((rd_T40 y290 (wrap64 ((y290.length : Int) - 1))).f0) ((rd_T40 y290 (wrap64 ((y290.length : Int) - 1))).f1)).bind fun t294 => (impl_span_blocks.l0 k y290 (wrap64 (t294 + 1)) x276000 x276001)) else (none)) else (none))) else (none))))) else ((impl_around.f x4 x5).bind fun bt295 => (if x3.length < 8796093022208 then ((some (x3 ++ [(⟨bt295.1, bt295.2⟩ : S40)] : List (S40))).bind fun y297 => (if 0 ≤ (wrap64 ((y297.length : Int) - 1)) then (if (wrap64 ((y297.length : Int) - 1)) < (y297.length : Int) then ((impl_Block_last.f ((rd_T40 y297 (wrap64 ((y297.length : Int) - 1))).f0) ((rd_T40 y297 (wrap64 ((y297.length : Int) - 1))).f1)).bind fun t301 => (impl_span_blocks.l0 k y297 (wrap64 (t301 + 1)) x276000 x276001)) else (none)) else (none))) else (none)))
end
def impl_span_blocks.f (k : Nat) (a0_0 : Int) (a0_1 : Int) : Option ((List (S40))) := impl_span_blocks.l0 k ([] : List (S40)) a0_0 a0_0 a0_1
theorem impl_span_blocks.mono_l : ∀ k, (∀ y0 y1 y2 y3, LeO (impl_span_blocks.l0 k y0 y1 y2 y3) (impl_span_blocks.l0 (k + 1) y0 y1 y2 y3)) ∧ (∀ y0 y1 y2 y3 y4, LeO (impl_span_blocks.l1 k y0 y1 y2 y3 y4) (impl_span_blocks.l1 (k + 1) y0 y1 y2 y3 y4))
 | 0 => ⟨fun _ _ _ _ r h => by simp [impl_span_blocks.l0] at h, fun _ _ _ _ _ r h => by simp [impl_span_blocks.l1] at h⟩
 | k + 1 => by
  obtain ⟨ih0, ih1⟩ := impl_span_blocks.mono_l k
  refine ⟨?_, ?_⟩
  ·intro y0 y1 y2 y3
   unfold impl_span_blocks.l0
   repeat' first
   | (with_reducible exact ih0 _ _ _ _)
   | (with_reducible exact ih1 _ _ _ _ _)
   | (with_reducible exact LeO.refl _)
   | (with_reducible exact LeO.none _)
   | (with_reducible refine LeO.ite ?_ ?_)
   | (with_reducible refine LeO.bind ?_ (fun _ => ?_))
   | exact ih0 _ _ _ _
   | exact ih1 _ _ _ _ _
   | exact LeO.none _
   | refine LeO.ite ?_ ?_
   | refine LeO.bind ?_ (fun _ => ?_)
  ·intro y0 y1 y2 y3 y4
   unfold impl_span_blocks.l1
   repeat' first
   | (with_reducible exact ih0 _ _ _ _)
   | (with_reducible exact ih1 _ _ _ _ _)
   | (with_reducible exact LeO.refl _)
   | (with_reducible exact LeO.none _)
   | (with_reducible refine LeO.ite ?_ ?_)
   | (with_reducible refine LeO.bind ?_ (fun _ => ?_))
   | exact ih0 _ _ _ _
   | exact ih1 _ _ _ _ _
   | exact LeO.none _
   | refine LeO.ite ?_ ?_
   | refine LeO.bind ?_ (fun _ => ?_)
theorem impl_span_blocks.mono : ∀ a0 a1 k, LeO (impl_span_blocks.f k a0 a1) (impl_span_blocks.f (k + 1) a0 a1) := by
 intro a0 a1 k
 obtain ⟨ih0, ih1⟩ := impl_span_blocks.mono_l k
 unfold impl_span_blocks.f
 repeat' first
   | (with_reducible exact ih0 _ _ _ _)
   | (with_reducible exact ih1 _ _ _ _ _)
   | (with_reducible exact LeO.refl _)
   | (with_reducible exact LeO.none _)
   | (with_reducible refine LeO.ite ?_ ?_)
   | (with_reducible refine LeO.bind ?_ (fun _ => ?_))
   | exact ih0 _ _ _ _
   | exact ih1 _ _ _ _ _
   | exact LeO.none _
   | refine LeO.ite ?_ ?_
   | refine LeO.bind ?_ (fun _ => ?_)
def impl_span_blocks.T5 : Bool × List (List Nat × List Nat) := (true, [([], []), ([0], [0]), ([1], [1]), ([2], [2]), ([2], [2]), ([4, 2], [2, 4]), ([3, 5, 2, 2], [2, 3, 5]), ([6, 2], [2, 6]), ([2], [2]), ([7, 8, 2], [2, 7, 8]), ([2, 9], [2, 9]), ([10, 6], [10]), ([11], [11]), ([11], [11]), ([13, 11], [11, 13]), ([12, 14, 11, 11], [11, 12, 14]), ([15, 15, 11], [11, 15]), ([11], [11]), ([17, 11], [11, 17]), ([16, 18, 11], [11, 16, 18]), ([11, 19], [11, 19])])
def impl_span_blocks.B5 : List Nat := [0, 1, 3, 7, 7, 23, 63, 127, 7, 511, 1023, 2047, 4095, 4095, 12287, 32767, 65535, 4095, 135167, 524287, 1048575]
theorem impl_span_blocks.tab5 : rtab .any (opsOf Try.f47 5) = impl_span_blocks.T5 := by kernel_rfl
theorem impl_span_blocks.bits5 : waitsOk impl_span_blocks.T5.2 impl_span_blocks.B5 = true := by kernel_rfl
set_option maxHeartbeats 8000000 in
set_option maxRecDepth 100000 in
theorem impl_span_blocks.calls (k : Nat) (a0_0 : Int) (a0_1 : Int) (r : List (S40)) (w : World) (h : impl_span_blocks.f k a0_0 a0_1 = some r) :
  Calls Try.prog 47 #[.agg #[.int .i64 a0_0, .int .i64 a0_1]] w fun e w' => ∃ v0_ : Value, e = .returned (v0_) ∧ Kd.R k40 40 w' w.heap.size (fun _ => True) v0_ r ∧ Below w.heap.size w w' := by
 have hu68 := Try.underlying68
 have hu40 := Try.underlying40
 have hfd40_0 := fld40_0
 have HB := Aside0.mk (Below.refl w.heap.size w)
 have H : (impl_span_blocks.l0 k ([] : List (S40)) a0_0 a0_0 a0_1) = some r := h
 clear h
 have H' := Aside0.mk H
 clear H
 go_enter Try.func47, Try.ntmps47
 go_wp2_with (first | (refine be 1 #[.int .i64 a0_0, .int .i64 a0_1] 68 ?_; intro gb275 hg w2 hbox hb; have BK275 := Aside0.mk hbox; have GW275 := Aside0.mk (zz1 : w.heap.size ≤ gb275); have GE275 := Aside0.mk (zz1 : w.heap.size ≤ gb275); replace HB := Aside0.mk (below_step zz2 hb); clear hb hbox hg; have hcz3_0 : w2.cell? ⟨gb275, 0, none⟩ = some (.int .i64 a0_0) := (blk_cell BK275.out 0).trans rfl; have hcz3_1 : w2.cell? ⟨gb275, 1, none⟩ = some (.int .i64 a0_1) := (blk_cell BK275.out 1).trans rfl; have hfz3_0 := blk_frozen BK275.out 0; have hfz3_1 := blk_frozen BK275.out 1))
 go_loopg [3, 4] k (fun kq v3 v4 w' => ∃ (x3_1 : List (S40)) (x4_1 : Int), v4 = .int .i64 x4_1 ∧ Aside0 (impl_span_blocks.l0 kq x3_1 x4_1 a0_0 a0_1 = some r) ∧ Aside0 (kq ≤ k) ∧ Aside0 (Kd.R k40 40 w' w.heap.size (fun _ => True) v3 x3_1) ∧ Aside0 (w'.heap[gb275]? = some (.cells #[.int .i64 a0_0, .int .i64 a0_1] 68 (0, 0))) ∧ Aside0 (Below w.heap.size w w'))
 case atStart => exact ⟨(([] : List (S40))), (a0_0), zz8, H', ⟨Nat.le_refl _⟩, ⟨zz45⟩, ⟨zz5 BK275⟩, ⟨zz4 GE275⟩⟩
 case round =>
  clear H'
  try clear p2
  try clear hcz3_0
  try clear hcz3_1
  try clear hfz3_0
  try clear hfz3_1
  obtain ⟨x3_1, x4_1, rfl, HA, HK1, HO_3, BK275, HB⟩ := hrel
  cases gk with
  | zero => exact absurd HA.out (by simp [impl_span_blocks.l0])
  | succ k1 =>
   have H := HA.out
   clear HA
   simp only [impl_span_blocks.l0] at H
   replace H := ic H
   rcases H with ⟨c4b0, H⟩ | ⟨c4b0, H⟩
   ·have H' := Aside0.mk H
    clear H
    have hcz5_0 : wr.cell? ⟨gb275, 0, none⟩ = some (.int .i64 a0_0) := (blk_cell BK275.out 0).trans rfl
    have hcz5_1 : wr.cell? ⟨gb275, 1, none⟩ = some (.int .i64 a0_1) := (blk_cell BK275.out 1).trans rfl
    have hfz5_0 := blk_frozen BK275.out 0
    have hfz5_1 := blk_frozen BK275.out 1
    go_wp2
    go_loopg [5] k1 (fun kq v5 w' => ∃ (x5_2 : Int), v5 = .int .i64 x5_2 ∧ Aside0 (impl_span_blocks.l1 kq x3_1 x4_1 x5_2 a0_0 a0_1 = some r) ∧ Aside0 (kq ≤ k1) ∧ Aside0 (Kd.R k40 40 w' w.heap.size (fun _ => True) u3 x3_1) ∧ Aside0 (w'.heap[gb275]? = some (.cells #[.int .i64 a0_0, .int .i64 a0_1] 68 (0, 0))) ∧ Aside0 (Below w.heap.size w w'))
    case atStart => exact ⟨(32), zz8, H', ⟨Nat.le_refl _⟩, ⟨zz13 HO_3⟩, ⟨zz5 BK275⟩, ⟨zz4 GE275⟩⟩
    case round =>
     clear H'
     try clear p2
     try clear c4
     try clear c4b0
     try clear hcz3_0
     try clear hcz3_1
     try clear hcz5_0
     try clear hcz5_1
     try clear hfz3_0
     try clear hfz3_1
     try clear hfz5_0
     try clear hfz5_1
     try clear p2
     obtain ⟨x5_2, rfl, HA, HK2, HO_3, BK275, HB⟩ := hrel
     cases gk with
     | zero => exact absurd HA.out (by simp [impl_span_blocks.l1])
     | succ k2 =>
      have H := HA.out
      clear HA
      simp only [impl_span_blocks.l1] at H
      replace H := ic H
      rcases H with ⟨c6b0, H⟩ | ⟨c6b0, H⟩
      ·replace H := Option.bind_eq_some_iff.mp H
       obtain ⟨⟨t276, t277⟩, A70, H⟩ := H
       replace H : (if t276 = x4_1 then ((impl_around.f x4_1 (wrap64 (x5_2 - 1))).bind fun bt278 => ((impl_Block_last.f bt278.1 bt278.2).bind fun t280 => (if t280 ≤ a0_1 then (impl_span_blocks.l1 k2 x3_1 x4_1 (wrap64 (x5_2 - 1)) a0_0 a0_1) else ((impl_around.f x4_1 x5_2).bind fun bt281 => (if x3_1.length < 8796093022208 then ((some (x3_1 ++ [(⟨bt281.1, bt281.2⟩ : S40)] : List (S40))).bind fun y283 => (if 0 ≤ (wrap64 ((y283.length : Int) - 1)) then (if (wrap64 ((y283.length : Int) - 1)) < (y283.length : Int) then ((impl_Block_last.f ((rd_T40 y283 (wrap64 ((y283.length : Int) - 1))).f0) ((rd_T40 y283 (wrap64 ((y283.length : Int) - 1))).f1)).bind fun t287 => (impl_span_blocks.l0 k2 y283 (wrap64 (t287 + 1)) a0_0 a0_1)) else (none)) else (none))) else (none)))))) else ((impl_around.f x4_1 x5_2).bind fun bt288 => (if x3_1.length < 8796093022208 then ((some (x3_1 ++ [(⟨bt288.1, bt288.2⟩ : S40)] : List (S40))).bind fun y290 => (if 0 ≤ (wrap64 ((y290.length : Int) - 1)) then (if (wrap64 ((y290.length : Int) - 1)) < (y290.length : Int) then ((impl_Block_last.f ((rd_T40 y290 (wrap64 ((y290.length : Int) - 1))).f0) ((rd_T40 y290 (wrap64 ((y290.length : Int) - 1))).f1)).bind fun t294 => (impl_span_blocks.l0 k2 y290 (wrap64 (t294 + 1)) a0_0 a0_1)) else (none)) else (none))) else (none)))) = some r := H
       have A7 := Aside0.mk A70
       clear A70
       by_cases c8 : t276 = x4_1
       ·rw [if_pos c8] at H
        have c8b0 : (t276 == x4_1) = true := beq_iff_eq.mpr c8
        have c8b1 : (t276 != x4_1) = false := bne_eq_false_iff_eq.mpr c8
        clear c8
        replace H := bd H
        obtain ⟨⟨t278, t279⟩, A9, H⟩ := H
        replace H : ((impl_Block_last.f t278 t279).bind fun t280 => (if t280 ≤ a0_1 then (impl_span_blocks.l1 k2 x3_1 x4_1 (wrap64 (x5_2 - 1)) a0_0 a0_1) else ((impl_around.f x4_1 x5_2).bind fun bt281 => (if x3_1.length < 8796093022208 then ((some (x3_1 ++ [(⟨bt281.1, bt281.2⟩ : S40)] : List (S40))).bind fun y283 => (if 0 ≤ (wrap64 ((y283.length : Int) - 1)) then (if (wrap64 ((y283.length : Int) - 1)) < (y283.length : Int) then ((impl_Block_last.f ((rd_T40 y283 (wrap64 ((y283.length : Int) - 1))).f0) ((rd_T40 y283 (wrap64 ((y283.length : Int) - 1))).f1)).bind fun t287 => (impl_span_blocks.l0 k2 y283 (wrap64 (t287 + 1)) a0_0 a0_1)) else (none)) else (none))) else (none))))) = some r := H
        replace H := bd H
        obtain ⟨t280, A10, H⟩ := H
        replace H : (if t280 ≤ a0_1 then (impl_span_blocks.l1 k2 x3_1 x4_1 (wrap64 (x5_2 - 1)) a0_0 a0_1) else ((impl_around.f x4_1 x5_2).bind fun bt281 => (if x3_1.length < 8796093022208 then ((some (x3_1 ++ [(⟨bt281.1, bt281.2⟩ : S40)] : List (S40))).bind fun y283 => (if 0 ≤ (wrap64 ((y283.length : Int) - 1)) then (if (wrap64 ((y283.length : Int) - 1)) < (y283.length : Int) then ((impl_Block_last.f ((rd_T40 y283 (wrap64 ((y283.length : Int) - 1))).f0) ((rd_T40 y283 (wrap64 ((y283.length : Int) - 1))).f1)).bind fun t287 => (impl_span_blocks.l0 k2 y283 (wrap64 (t287 + 1)) a0_0 a0_1)) else (none)) else (none))) else (none)))) = some r := H
        replace H := ic H
        rcases H with ⟨c11b0, H⟩ | ⟨c11b0, H⟩
        ·have H' := Aside0.mk H
         clear H
         try go_wp2
         replace HO_3 := Aside0.mk (Kd.R_drew HO_3.out)
         replace BK275 := Aside0.mk (blk_drew BK275.out)
         replace HB := Aside0.mk (below_drew1 HB.out)
         refine start_ (n := 21) (S := fun w' => w'.cell? ⟨gb275, 0, none⟩ = some (.int .i64 a0_0) ∧ w'.cell? ⟨gb275, 1, none⟩ = some (.int .i64 a0_1)) (ds := []) (bm 21 0) (by kernel_rfl) rfl rfl ⟨(blk_cell BK275.out 0).trans rfl, (blk_cell BK275.out 1).trans rfl⟩ (fun hHeld => ?_); refine with_tabW impl_span_blocks.tab5 impl_span_blocks.bits5 (fun HT_ HW_ => ?_)
         generalize wr.drew = w12 at HO_3 BK275 HB hHeld ⊢
         refine pu 0 12 (bm 21 1) ?_
         refine pu 1 13 (bm 21 3) ?_
         refine pu 2 14 (bm 21 7) ?_
         refine pu 3 15 (bm 21 15) ?_
         refine pu 4 16 (bm 21 31) ?_
         refine pu 5 17 (bm 21 63) ?_
         refine pu 8 20 (bm 21 319) ?_
         refine on 6 (some 18) (bm 21 383) (fun K hK => ?_)
         refine gs Try.func70 #[.int .i64 x4_1, .int .i64 (wrap64 (x5_2 - 1))] ?_
         with_reducible refine (impl_around.calls x4_1 (wrap64 (x5_2 - 1)) t276 t277 _ A7.out).mono ?_
         rintro e w13 ⟨rfl, hb⟩
         refine ⟨_, rfl, ?_⟩
         replace HO_3 := Aside0.mk (Kd.R_below (zz13 HO_3) hb)
         replace BK275 := Aside0.mk (blk_below (g := gb275) (o := .cells #[.int .i64 a0_0, .int .i64 a0_1] 68 (0, 0)) (zz5 BK275) hb)
         replace HB := Aside0.mk (below_step (zz4 GE275) hb)
         (try clear hb)
         (try clear hb2)
         (try clear hk)
         (try clear hi)
         refine hK.out _ _ ⟨(blk_cell BK275.out 0).trans rfl, (blk_cell BK275.out 1).trans rfl⟩ (fun hHeld => ?_)
         clear hK K
         refine nm 18 ?_
         refine pu 7 19 (bm 21 511) ?_
         refine pu 9 21 (bm 21 1023) ?_
         refine pu 10 22 (bm 21 2047) ?_
         refine pu 11 23 (bm 21 4095) ?_
         refine pu 12 24 (bm 21 8191) ?_
         refine pu 13 25 (bm 21 16383) ?_
         refine pu 14 26 (bm 21 32767) ?_
         refine pu 17 29 (bm 21 163839) ?_
         refine tk 18 30 (bm 21 425983) ?_
         refine on 15 (some 27) (bm 21 458751) (fun K hK => ?_)
         refine gs Try.func70 #[.int .i64 x4_1, .int .i64 (wrap64 (x5_2 - 1))] ?_
         with_reducible refine (impl_around.calls x4_1 (wrap64 (x5_2 - 1)) t278 t279 _ A9.out).mono ?_
         rintro e w14 ⟨rfl, hb⟩
         refine ⟨_, rfl, ?_⟩
         replace HO_3 := Aside0.mk (Kd.R_below (zz13 HO_3) hb)
         replace BK275 := Aside0.mk (blk_below (g := gb275) (o := .cells #[.int .i64 a0_0, .int .i64 a0_1] 68 (0, 0)) (zz5 BK275) hb)
         replace HB := Aside0.mk (below_step (zz4 GE275) hb)
         (try clear hb)
         (try clear hb2)
         (try clear hk)
         (try clear hi)
         refine hK.out _ _ ⟨(blk_cell BK275.out 0).trans rfl, (blk_cell BK275.out 1).trans rfl⟩ (fun hHeld => ?_)
         clear hK K
         refine nm 27 ?_
         refine on 16 (some 28) (bm 21 524287) (fun K hK => ?_)
         refine gs Try.func89 #[.agg #[.int .i64 t278, .int .i64 t279]] ?_
         with_reducible refine (impl_Block_last.calls t278 t279 t280 _ A10.out).mono ?_
         rintro e w15 ⟨rfl, hb⟩
         refine ⟨_, rfl, ?_⟩
         replace HO_3 := Aside0.mk (Kd.R_below (zz13 HO_3) hb)
         replace BK275 := Aside0.mk (blk_below (g := gb275) (o := .cells #[.int .i64 a0_0, .int .i64 a0_1] 68 (0, 0)) (zz5 BK275) hb)
         replace HB := Aside0.mk (below_step (zz4 GE275) hb)
         (try clear hb)
         (try clear hb2)
         (try clear hk)
         (try clear hi)
         refine hK.out _ _ ⟨(blk_cell BK275.out 0).trans rfl, (blk_cell BK275.out 1).trans rfl⟩ (fun hHeld => ?_)
         clear hK K
         refine nm 28 ?_
         refine pu 19 31 (bm 21 1048575) ?_
         refine pu 20 32 (bm 21 2097151) ?_
         refine done_ (done_of HT_.out (by kernel_rfl)) ?_
         try go_wp2
         go_roundg k2
         case measure => have := HK1.out; have := HK2.out; omega
         case rel => exact ⟨(wrap64 (x5_2 - 1)), zz8, H', ⟨zz16 HK1 HK2⟩, ⟨zz13 HO_3⟩, ⟨zz5 BK275⟩, ⟨zz4 GE275⟩⟩
        ·replace H := Option.bind_eq_some_iff.mp H
         obtain ⟨⟨t281, t282⟩, A160, H⟩ := H
         replace H : (if x3_1.length < 8796093022208 then ((some (x3_1 ++ [(⟨t281, t282⟩ : S40)] : List (S40))).bind fun y283 => (if 0 ≤ (wrap64 ((y283.length : Int) - 1)) then (if (wrap64 ((y283.length : Int) - 1)) < (y283.length : Int) then ((impl_Block_last.f ((rd_T40 y283 (wrap64 ((y283.length : Int) - 1))).f0) ((rd_T40 y283 (wrap64 ((y283.length : Int) - 1))).f1)).bind fun t287 => (impl_span_blocks.l0 k2 y283 (wrap64 (t287 + 1)) a0_0 a0_1)) else (none)) else (none))) else (none)) = some r := H
         have A16 := Aside0.mk A160
         clear A160
         replace H := gp H
         obtain ⟨c17, H⟩ := H
         have LMc17 := Aside0.mk c17
         clear c17
         obtain ⟨y283, hy283⟩ : ∃ y_ : List (S40), y_ = (x3_1 ++ [(⟨t281, t282⟩ : S40)]) := ⟨_, rfl⟩
         replace H : (if 0 ≤ (wrap64 ((y283.length : Int) - 1)) then (if (wrap64 ((y283.length : Int) - 1)) < (y283.length : Int) then ((impl_Block_last.f ((rd_T40 y283 (wrap64 ((y283.length : Int) - 1))).f0) ((rd_T40 y283 (wrap64 ((y283.length : Int) - 1))).f1)).bind fun t287 => (impl_span_blocks.l0 k2 y283 (wrap64 (t287 + 1)) a0_0 a0_1)) else (none)) else (none)) = some r := by first | (rw [hy283]; with_reducible exact H) | (have H2_ := (Option.bind_some _ _).symm.trans H; rw [hy283]; with_reducible exact H2_) | (have H2_ := (Option.bind_some _ _).symm.trans H; with_reducible exact H2_) | with_reducible exact H | (rw [hy283]; exact H) | exact H
         have Ny283 := Aside0.mk hy283
         clear hy283
         obtain ⟨ji18, hji18⟩ : ∃ j_ : Int, (wrap64 ((y283.length : Int) - 1)) = j_ := ⟨_, rfl⟩
         replace H : (if 0 ≤ (ji18) then (if (ji18) < (y283.length : Int) then ((impl_Block_last.f ((rd_T40 y283 (ji18)).f0) ((rd_T40 y283 (ji18)).f1)).bind fun t287 => (impl_span_blocks.l0 k2 y283 (wrap64 (t287 + 1)) a0_0 a0_1)) else (none)) else (none)) = some r := by first | (rw [hji18] at H; exact H) | (simp only [hji18] at H ⊢; exact H)
         (try rw [hji18] at A7)
         (try rw [hji18] at A9)
         (try rw [hji18] at A10)
         (try rw [hji18] at A16)
         have hji18w : (IntKind.i64.wrap ((y283.length : Int) - 1)) = ji18 := (i64_w _).trans hji18
         replace H := gd H
         obtain ⟨c19b0, H⟩ := H
         replace H := gd H
         obtain ⟨c20b0, H⟩ := H
         replace H := bd H
         obtain ⟨t287, A21, H⟩ := H
         replace H : (impl_span_blocks.l0 k2 y283 (wrap64 (t287 + 1)) a0_0 a0_1) = some r := H
         have H' := Aside0.mk H
         clear H
         try go_wp2
         replace HO_3 := Aside0.mk (Kd.R_drew HO_3.out)
         replace BK275 := Aside0.mk (blk_drew BK275.out)
         replace HB := Aside0.mk (below_drew1 HB.out)
         refine start_ (n := 21) (S := fun w' => w'.cell? ⟨gb275, 0, none⟩ = some (.int .i64 a0_0) ∧ w'.cell? ⟨gb275, 1, none⟩ = some (.int .i64 a0_1)) (ds := []) (bm 21 0) (by kernel_rfl) rfl rfl ⟨(blk_cell BK275.out 0).trans rfl, (blk_cell BK275.out 1).trans rfl⟩ (fun hHeld => ?_); refine with_tabW impl_span_blocks.tab5 impl_span_blocks.bits5 (fun HT_ HW_ => ?_)
         generalize wr.drew = w22 at HO_3 BK275 HB hHeld ⊢
         refine pu 0 12 (bm 21 1) ?_
         refine pu 1 13 (bm 21 3) ?_
         refine pu 2 14 (bm 21 7) ?_
         refine pu 3 15 (bm 21 15) ?_
         refine pu 4 16 (bm 21 31) ?_
         refine pu 5 17 (bm 21 63) ?_
         refine pu 8 20 (bm 21 319) ?_
         refine on 6 (some 18) (bm 21 383) (fun K hK => ?_)
         refine gs Try.func70 #[.int .i64 x4_1, .int .i64 (wrap64 (x5_2 - 1))] ?_
         with_reducible refine (impl_around.calls x4_1 (wrap64 (x5_2 - 1)) t276 t277 _ A7.out).mono ?_
         rintro e w23 ⟨rfl, hb⟩
         refine ⟨_, rfl, ?_⟩
         replace HO_3 := Aside0.mk (Kd.R_below (zz13 HO_3) hb)
         replace BK275 := Aside0.mk (blk_below (g := gb275) (o := .cells #[.int .i64 a0_0, .int .i64 a0_1] 68 (0, 0)) (zz5 BK275) hb)
         replace HB := Aside0.mk (below_step (zz4 GE275) hb)
         (try clear hb)
         (try clear hb2)
         (try clear hk)
         (try clear hi)
         refine hK.out _ _ ⟨(blk_cell BK275.out 0).trans rfl, (blk_cell BK275.out 1).trans rfl⟩ (fun hHeld => ?_)
         clear hK K
         refine nm 18 ?_
         refine pu 7 19 (bm 21 511) ?_
         refine pu 9 21 (bm 21 1023) ?_
         refine pu 10 22 (bm 21 2047) ?_
         refine pu 11 23 (bm 21 4095) ?_
         refine pu 12 24 (bm 21 8191) ?_
         refine pu 13 25 (bm 21 16383) ?_
         refine pu 14 26 (bm 21 32767) ?_
         refine pu 17 29 (bm 21 163839) ?_
         refine tk 18 30 (bm 21 425983) ?_
         refine on 15 (some 27) (bm 21 458751) (fun K hK => ?_)
         refine gs Try.func70 #[.int .i64 x4_1, .int .i64 (wrap64 (x5_2 - 1))] ?_
         with_reducible refine (impl_around.calls x4_1 (wrap64 (x5_2 - 1)) t278 t279 _ A9.out).mono ?_
         rintro e w24 ⟨rfl, hb⟩
         refine ⟨_, rfl, ?_⟩
         replace HO_3 := Aside0.mk (Kd.R_below (zz13 HO_3) hb)
         replace BK275 := Aside0.mk (blk_below (g := gb275) (o := .cells #[.int .i64 a0_0, .int .i64 a0_1] 68 (0, 0)) (zz5 BK275) hb)
         replace HB := Aside0.mk (below_step (zz4 GE275) hb)
         (try clear hb)
         (try clear hb2)
         (try clear hk)
         (try clear hi)
         refine hK.out _ _ ⟨(blk_cell BK275.out 0).trans rfl, (blk_cell BK275.out 1).trans rfl⟩ (fun hHeld => ?_)
         clear hK K
         refine nm 27 ?_
         refine on 16 (some 28) (bm 21 524287) (fun K hK => ?_)
         refine gs Try.func89 #[.agg #[.int .i64 t278, .int .i64 t279]] ?_
         with_reducible refine (impl_Block_last.calls t278 t279 t280 _ A10.out).mono ?_
         rintro e w25 ⟨rfl, hb⟩
         refine ⟨_, rfl, ?_⟩
         replace HO_3 := Aside0.mk (Kd.R_below (zz13 HO_3) hb)
         replace BK275 := Aside0.mk (blk_below (g := gb275) (o := .cells #[.int .i64 a0_0, .int .i64 a0_1] 68 (0, 0)) (zz5 BK275) hb)
         replace HB := Aside0.mk (below_step (zz4 GE275) hb)
         (try clear hb)
         (try clear hb2)
         (try clear hk)
         (try clear hi)
         refine hK.out _ _ ⟨(blk_cell BK275.out 0).trans rfl, (blk_cell BK275.out 1).trans rfl⟩ (fun hHeld => ?_)
         clear hK K
         refine nm 28 ?_
         refine pu 19 31 (bm 21 1048575) ?_
         refine pu 20 32 (bm 21 2097151) ?_
         refine done_ (done_of HT_.out (by kernel_rfl)) ?_
         try go_wp2_with (first | (refine gc (some 38) Try.func70 #[.int .i64 x4_1, .int .i64 x5_2] ?_; (with_reducible refine (impl_around.calls x4_1 x5_2 t281 t282 _ A16.out).mono ?_); rintro e w26 ⟨rfl, hb⟩; refine ⟨_, rfl, ?_⟩; replace HO_3 := Aside0.mk (Kd.R_below (zz13 HO_3) hb); replace BK275 := Aside0.mk (blk_below (g := gb275) (o := .cells #[.int .i64 a0_0, .int .i64 a0_1] 68 (0, 0)) (zz5 BK275) hb); replace HB := Aside0.mk (below_step (zz4 GE275) hb); clear hb) | ((with_reducible refine gate_builtin (b := .append) (xs := #[.tmp 35, .tmp 39]) rfl ?_); at_builtin; refine Kd.R_append k40 (w0 := w) w.heap.size rfl (.tmp 35) (.tmp 39) 25 40 (.agg #[(.int .i64 0), (.int .i64 0)]) 16 rfl Try.underlying25 info40 rfl (by decide) (by omega) u3 x3_1 (⟨t281, t282⟩ : S40) [.int .i64 t281, .int .i64 t282] (fun _ => True) (fun _ => False) rfl rfl ?aP (fun _ hk => hk.elim) ?aF ?aO ?aB ?aS ?aL ?_; (case aP => exact k40_mkM _ _ _ (⟨t281, t282⟩ : S40)); (case aB => exact zz4 GE275); (case aF => exact zz40); (case aO => exact zz13 HO_3); (case aS => exact zz15 GE275); (case aL => exact zz9 LMc17); intro v284 w27 ho hb hg hat; rw [← Ny283.out] at ho; replace BK275 := Aside0.mk (blk_grown (g := gb275) (o := .cells #[.int .i64 a0_0, .int .i64 a0_1] 68 (0, 0)) (zz5 BK275) hg (Kd.R_ne HO_3.out BK275.out (by decide))); replace HB := Aside0.mk hb; have HO285 := Aside0.mk ho; clear HO_3 ho hb hg hat; obtain ⟨Ao28, co28, eo28⟩ := Kd.R_slice HO285.out; subst eo28; obtain ⟨⟨ad286, e286, hx286_0, hx286_1⟩, p286, q286⟩ := wi (at_T40 (Kd.R_reads' HO285.out).2.2 (ji18)); cases e286) | ((with_reducible refine gate_callee (f := 89) rfl ?_); refine goesL_ (some 47) rfl rfl Try.func89 (by kernel_rfl) rfl #[.agg #[.int .i64 ((rd_T40 y283 (ji18)).f0), .int .i64 ((rd_T40 y283 (ji18)).f1)]] rfl (by (try simp only [List.map_toArray, List.map_cons, List.map_nil]); first | done | (simp only [hji18]; rfl) | rfl | (simp only [List.length_drop, List.length_take]; rfl)) ?_; (with_reducible refine (impl_Block_last.calls ((rd_T40 y283 (ji18)).f0) ((rd_T40 y283 (ji18)).f1) t287 _ A21.out).mono ?_); rintro e w29 ⟨rfl, hb⟩; refine ⟨_, rfl, ?_⟩; replace HO285 := Aside0.mk (Kd.R_below (zz13 HO285) hb); replace BK275 := Aside0.mk (blk_below (g := gb275) (o := .cells #[.int .i64 a0_0, .int .i64 a0_1] 68 (0, 0)) (zz5 BK275) hb); replace HB := Aside0.mk (below_step (zz4 GE275) hb); clear hb))
         go_roundg k2
         case measure => have := HK1.out; have := HK2.out; omega
         case rel => exact ⟨(y283), (wrap64 (t287 + 1)), zz8, H', ⟨zz16 HK1 HK2⟩, ⟨zz13 HO285⟩, ⟨zz5 BK275⟩, ⟨zz4 GE275⟩⟩
       ·rw [if_neg c8] at H
        have c8b0 : (t276 == x4_1) = false := beq_eq_false_iff_ne.mpr c8
        have c8b1 : (t276 != x4_1) = true := bne_iff_ne.mpr c8
        replace H := bd H
        obtain ⟨⟨t288, t289⟩, A30, H⟩ := H
        replace H : (if x3_1.length < 8796093022208 then ((some (x3_1 ++ [(⟨t288, t289⟩ : S40)] : List (S40))).bind fun y290 => (if 0 ≤ (wrap64 ((y290.length : Int) - 1)) then (if (wrap64 ((y290.length : Int) - 1)) < (y290.length : Int) then ((impl_Block_last.f ((rd_T40 y290 (wrap64 ((y290.length : Int) - 1))).f0) ((rd_T40 y290 (wrap64 ((y290.length : Int) - 1))).f1)).bind fun t294 => (impl_span_blocks.l0 k2 y290 (wrap64 (t294 + 1)) a0_0 a0_1)) else (none)) else (none))) else (none)) = some r := H
        replace H := gp H
        obtain ⟨c31, H⟩ := H
        have LMc31 := Aside0.mk c31
        clear c31
        obtain ⟨y290, hy290⟩ : ∃ y_ : List (S40), y_ = (x3_1 ++ [(⟨t288, t289⟩ : S40)]) := ⟨_, rfl⟩
        replace H : (if 0 ≤ (wrap64 ((y290.length : Int) - 1)) then (if (wrap64 ((y290.length : Int) - 1)) < (y290.length : Int) then ((impl_Block_last.f ((rd_T40 y290 (wrap64 ((y290.length : Int) - 1))).f0) ((rd_T40 y290 (wrap64 ((y290.length : Int) - 1))).f1)).bind fun t294 => (impl_span_blocks.l0 k2 y290 (wrap64 (t294 + 1)) a0_0 a0_1)) else (none)) else (none)) = some r := by first | (rw [hy290]; with_reducible exact H) | (have H2_ := (Option.bind_some _ _).symm.trans H; rw [hy290]; with_reducible exact H2_) | (have H2_ := (Option.bind_some _ _).symm.trans H; with_reducible exact H2_) | with_reducible exact H | (rw [hy290]; exact H) | exact H
        have Ny290 := Aside0.mk hy290
        clear hy290
        obtain ⟨ji32, hji32⟩ : ∃ j_ : Int, (wrap64 ((y290.length : Int) - 1)) = j_ := ⟨_, rfl⟩
        replace H : (if 0 ≤ (ji32) then (if (ji32) < (y290.length : Int) then ((impl_Block_last.f ((rd_T40 y290 (ji32)).f0) ((rd_T40 y290 (ji32)).f1)).bind fun t294 => (impl_span_blocks.l0 k2 y290 (wrap64 (t294 + 1)) a0_0 a0_1)) else (none)) else (none)) = some r := by first | (rw [hji32] at H; exact H) | (simp only [hji32] at H ⊢; exact H)
        (try rw [hji32] at A7)
        (try rw [hji32] at A30)
        have hji32w : (IntKind.i64.wrap ((y290.length : Int) - 1)) = ji32 := (i64_w _).trans hji32
        replace H := gd H
        obtain ⟨c33b0, H⟩ := H
        replace H := gd H
        obtain ⟨c34b0, H⟩ := H
        replace H := bd H
        obtain ⟨t294, A35, H⟩ := H
        replace H : (impl_span_blocks.l0 k2 y290 (wrap64 (t294 + 1)) a0_0 a0_1) = some r := H
        have H' := Aside0.mk H
        clear H
        try go_wp2
        replace HO_3 := Aside0.mk (Kd.R_drew HO_3.out)
        replace BK275 := Aside0.mk (blk_drew BK275.out)
        replace HB := Aside0.mk (below_drew1 HB.out)
        refine start_ (n := 21) (S := fun w' => True) (ds := []) (bm 21 0) (by kernel_rfl) rfl rfl trivial (fun hHeld => ?_); refine with_tabW impl_span_blocks.tab5 impl_span_blocks.bits5 (fun HT_ HW_ => ?_)
        generalize wr.drew = w36 at HO_3 BK275 HB hHeld ⊢
        refine pu 0 12 (bm 21 1) ?_
        refine pu 1 13 (bm 21 3) ?_
        refine pu 2 14 (bm 21 7) ?_
        refine pu 3 15 (bm 21 15) ?_
        refine pu 4 16 (bm 21 31) ?_
        refine pu 5 17 (bm 21 63) ?_
        refine pu 8 20 (bm 21 319) ?_
        refine on 6 (some 18) (bm 21 383) (fun K hK => ?_)
        refine gs Try.func70 #[.int .i64 x4_1, .int .i64 (wrap64 (x5_2 - 1))] ?_
        with_reducible refine (impl_around.calls x4_1 (wrap64 (x5_2 - 1)) t276 t277 _ A7.out).mono ?_
        rintro e w37 ⟨rfl, hb⟩
        refine ⟨_, rfl, ?_⟩
        replace HO_3 := Aside0.mk (Kd.R_below (zz13 HO_3) hb)
        replace BK275 := Aside0.mk (blk_below (g := gb275) (o := .cells #[.int .i64 a0_0, .int .i64 a0_1] 68 (0, 0)) (zz5 BK275) hb)
        replace HB := Aside0.mk (below_step (zz4 GE275) hb)
        (try clear hb)
        (try clear hb2)
        (try clear hk)
        (try clear hi)
        refine hK.out _ _ trivial (fun hHeld => ?_)
        clear hK K
        refine nm 18 ?_
        refine pu 7 19 (bm 21 511) ?_
        refine pu 9 21 (bm 21 1023) ?_
        refine pu 10 22 (bm 21 2047) ?_
        refine pu 11 23 (bm 21 4095) ?_
        refine po 12 24 (bm 21 8191) ?_
        refine po 13 25 (bm 21 16383) ?_
        refine po 14 26 (bm 21 32767) ?_
        refine po 15 27 (bm 21 65535) ?_
        refine po 16 28 (bm 21 131071) ?_
        refine po 17 29 (bm 21 262143) ?_
        refine po 18 30 (bm 21 524287) ?_
        refine po 19 31 (bm 21 1048575) ?_
        refine pu 20 32 (bm 21 2097151) ?_
        refine done_ (done_of HT_.out (by kernel_rfl)) ?_
        try go_wp2_with (first | (refine gc (some 38) Try.func70 #[.int .i64 x4_1, .int .i64 x5_2] ?_; (with_reducible refine (impl_around.calls x4_1 x5_2 t288 t289 _ A30.out).mono ?_); rintro e w38 ⟨rfl, hb⟩; refine ⟨_, rfl, ?_⟩; replace HO_3 := Aside0.mk (Kd.R_below (zz13 HO_3) hb); replace BK275 := Aside0.mk (blk_below (g := gb275) (o := .cells #[.int .i64 a0_0, .int .i64 a0_1] 68 (0, 0)) (zz5 BK275) hb); replace HB := Aside0.mk (below_step (zz4 GE275) hb); clear hb) | ((with_reducible refine gate_builtin (b := .append) (xs := #[.tmp 35, .tmp 39]) rfl ?_); at_builtin; refine Kd.R_append k40 (w0 := w) w.heap.size rfl (.tmp 35) (.tmp 39) 25 40 (.agg #[(.int .i64 0), (.int .i64 0)]) 16 rfl Try.underlying25 info40 rfl (by decide) (by omega) u3 x3_1 (⟨t288, t289⟩ : S40) [.int .i64 t288, .int .i64 t289] (fun _ => True) (fun _ => False) rfl rfl ?aP (fun _ hk => hk.elim) ?aF ?aO ?aB ?aS ?aL ?_; (case aP => exact k40_mkM _ _ _ (⟨t288, t289⟩ : S40)); (case aB => exact zz4 GE275); (case aF => exact zz40); (case aO => exact zz13 HO_3); (case aS => exact zz15 GE275); (case aL => exact zz9 LMc31); intro v291 w39 ho hb hg hat; rw [← Ny290.out] at ho; replace BK275 := Aside0.mk (blk_grown (g := gb275) (o := .cells #[.int .i64 a0_0, .int .i64 a0_1] 68 (0, 0)) (zz5 BK275) hg (Kd.R_ne HO_3.out BK275.out (by decide))); replace HB := Aside0.mk hb; have HO292 := Aside0.mk ho; clear HO_3 ho hb hg hat; obtain ⟨Ao40, co40, eo40⟩ := Kd.R_slice HO292.out; subst eo40; obtain ⟨⟨ad293, e293, hx293_0, hx293_1⟩, p293, q293⟩ := wi (at_T40 (Kd.R_reads' HO292.out).2.2 (ji32)); cases e293) | ((with_reducible refine gate_callee (f := 89) rfl ?_); refine goesL_ (some 47) rfl rfl Try.func89 (by kernel_rfl) rfl #[.agg #[.int .i64 ((rd_T40 y290 (ji32)).f0), .int .i64 ((rd_T40 y290 (ji32)).f1)]] rfl (by (try simp only [List.map_toArray, List.map_cons, List.map_nil]); first | done | (simp only [hji32]; rfl) | rfl | (simp only [List.length_drop, List.length_take]; rfl)) ?_; (with_reducible refine (impl_Block_last.calls ((rd_T40 y290 (ji32)).f0) ((rd_T40 y290 (ji32)).f1) t294 _ A35.out).mono ?_); rintro e w41 ⟨rfl, hb⟩; refine ⟨_, rfl, ?_⟩; replace HO292 := Aside0.mk (Kd.R_below (zz13 HO292) hb); replace BK275 := Aside0.mk (blk_below (g := gb275) (o := .cells #[.int .i64 a0_0, .int .i64 a0_1] 68 (0, 0)) (zz5 BK275) hb); replace HB := Aside0.mk (below_step (zz4 GE275) hb); clear hb))
        go_roundg k2
        case measure => have := HK1.out; have := HK2.out; omega
        case rel => exact ⟨(y290), (wrap64 (t294 + 1)), zz8, H', ⟨zz16 HK1 HK2⟩, ⟨zz13 HO292⟩, ⟨zz5 BK275⟩, ⟨zz4 GE275⟩⟩
      ·replace H := Option.bind_eq_some_iff.mp H
       obtain ⟨⟨t295, t296⟩, A420, H⟩ := H
       replace H : (if x3_1.length < 8796093022208 then ((some (x3_1 ++ [(⟨t295, t296⟩ : S40)] : List (S40))).bind fun y297 => (if 0 ≤ (wrap64 ((y297.length : Int) - 1)) then (if (wrap64 ((y297.length : Int) - 1)) < (y297.length : Int) then ((impl_Block_last.f ((rd_T40 y297 (wrap64 ((y297.length : Int) - 1))).f0) ((rd_T40 y297 (wrap64 ((y297.length : Int) - 1))).f1)).bind fun t301 => (impl_span_blocks.l0 k2 y297 (wrap64 (t301 + 1)) a0_0 a0_1)) else (none)) else (none))) else (none)) = some r := H
       have A42 := Aside0.mk A420
       clear A420
       replace H := gp H
       obtain ⟨c43, H⟩ := H
       have LMc43 := Aside0.mk c43
       clear c43
       obtain ⟨y297, hy297⟩ : ∃ y_ : List (S40), y_ = (x3_1 ++ [(⟨t295, t296⟩ : S40)]) := ⟨_, rfl⟩
       replace H : (if 0 ≤ (wrap64 ((y297.length : Int) - 1)) then (if (wrap64 ((y297.length : Int) - 1)) < (y297.length : Int) then ((impl_Block_last.f ((rd_T40 y297 (wrap64 ((y297.length : Int) - 1))).f0) ((rd_T40 y297 (wrap64 ((y297.length : Int) - 1))).f1)).bind fun t301 => (impl_span_blocks.l0 k2 y297 (wrap64 (t301 + 1)) a0_0 a0_1)) else (none)) else (none)) = some r := by first | (rw [hy297]; with_reducible exact H) | (have H2_ := (Option.bind_some _ _).symm.trans H; rw [hy297]; with_reducible exact H2_) | (have H2_ := (Option.bind_some _ _).symm.trans H; with_reducible exact H2_) | with_reducible exact H | (rw [hy297]; exact H) | exact H
       have Ny297 := Aside0.mk hy297
       clear hy297
       obtain ⟨ji44, hji44⟩ : ∃ j_ : Int, (wrap64 ((y297.length : Int) - 1)) = j_ := ⟨_, rfl⟩
       replace H : (if 0 ≤ (ji44) then (if (ji44) < (y297.length : Int) then ((impl_Block_last.f ((rd_T40 y297 (ji44)).f0) ((rd_T40 y297 (ji44)).f1)).bind fun t301 => (impl_span_blocks.l0 k2 y297 (wrap64 (t301 + 1)) a0_0 a0_1)) else (none)) else (none)) = some r := by first | (rw [hji44] at H; exact H) | (simp only [hji44] at H ⊢; exact H)
       (try rw [hji44] at A42)
       have hji44w : (IntKind.i64.wrap ((y297.length : Int) - 1)) = ji44 := (i64_w _).trans hji44
       replace H := gd H
       obtain ⟨c45b0, H⟩ := H
       replace H := gd H
       obtain ⟨c46b0, H⟩ := H
       replace H := bd H
       obtain ⟨t301, A47, H⟩ := H
       replace H : (impl_span_blocks.l0 k2 y297 (wrap64 (t301 + 1)) a0_0 a0_1) = some r := H
       have H' := Aside0.mk H
       clear H
       try go_wp2
       replace HO_3 := Aside0.mk (Kd.R_drew HO_3.out)
       replace BK275 := Aside0.mk (blk_drew BK275.out)
       replace HB := Aside0.mk (below_drew1 HB.out)
       refine start_ (n := 21) (S := fun w' => True) (ds := []) (bm 21 0) (by kernel_rfl) rfl rfl trivial (fun hHeld => ?_); refine with_tabW impl_span_blocks.tab5 impl_span_blocks.bits5 (fun HT_ HW_ => ?_)
       generalize wr.drew = w48 at HO_3 BK275 HB hHeld ⊢
       refine pu 0 12 (bm 21 1) ?_
       refine pu 1 13 (bm 21 3) ?_
       refine pu 2 14 (bm 21 7) ?_
       refine po 3 15 (bm 21 15) ?_
       refine po 4 16 (bm 21 31) ?_
       refine po 5 17 (bm 21 63) ?_
       refine po 6 18 (bm 21 127) ?_
       refine po 7 19 (bm 21 255) ?_
       refine po 8 20 (bm 21 511) ?_
       refine po 9 21 (bm 21 1023) ?_
       refine pu 10 22 (bm 21 2047) ?_
       refine pu 11 23 (bm 21 4095) ?_
       refine po 12 24 (bm 21 8191) ?_
       refine po 13 25 (bm 21 16383) ?_
       refine po 14 26 (bm 21 32767) ?_
       refine po 15 27 (bm 21 65535) ?_
       refine po 16 28 (bm 21 131071) ?_
       refine po 17 29 (bm 21 262143) ?_
       refine po 18 30 (bm 21 524287) ?_
       refine po 19 31 (bm 21 1048575) ?_
       refine pu 20 32 (bm 21 2097151) ?_
       refine done_ (done_of HT_.out (by kernel_rfl)) ?_
       try go_wp2_with (first | (refine gc (some 38) Try.func70 #[.int .i64 x4_1, .int .i64 x5_2] ?_; (with_reducible refine (impl_around.calls x4_1 x5_2 t295 t296 _ A42.out).mono ?_); rintro e w49 ⟨rfl, hb⟩; refine ⟨_, rfl, ?_⟩; replace HO_3 := Aside0.mk (Kd.R_below (zz13 HO_3) hb); replace BK275 := Aside0.mk (blk_below (g := gb275) (o := .cells #[.int .i64 a0_0, .int .i64 a0_1] 68 (0, 0)) (zz5 BK275) hb); replace HB := Aside0.mk (below_step (zz4 GE275) hb); clear hb) | ((with_reducible refine gate_builtin (b := .append) (xs := #[.tmp 35, .tmp 39]) rfl ?_); at_builtin; refine Kd.R_append k40 (w0 := w) w.heap.size rfl (.tmp 35) (.tmp 39) 25 40 (.agg #[(.int .i64 0), (.int .i64 0)]) 16 rfl Try.underlying25 info40 rfl (by decide) (by omega) u3 x3_1 (⟨t295, t296⟩ : S40) [.int .i64 t295, .int .i64 t296] (fun _ => True) (fun _ => False) rfl rfl ?aP (fun _ hk => hk.elim) ?aF ?aO ?aB ?aS ?aL ?_; (case aP => exact k40_mkM _ _ _ (⟨t295, t296⟩ : S40)); (case aB => exact zz4 GE275); (case aF => exact zz40); (case aO => exact zz13 HO_3); (case aS => exact zz15 GE275); (case aL => exact zz9 LMc43); intro v298 w50 ho hb hg hat; rw [← Ny297.out] at ho; replace BK275 := Aside0.mk (blk_grown (g := gb275) (o := .cells #[.int .i64 a0_0, .int .i64 a0_1] 68 (0, 0)) (zz5 BK275) hg (Kd.R_ne HO_3.out BK275.out (by decide))); replace HB := Aside0.mk hb; have HO299 := Aside0.mk ho; clear HO_3 ho hb hg hat; obtain ⟨Ao51, co51, eo51⟩ := Kd.R_slice HO299.out; subst eo51; obtain ⟨⟨ad300, e300, hx300_0, hx300_1⟩, p300, q300⟩ := wi (at_T40 (Kd.R_reads' HO299.out).2.2 (ji44)); cases e300) | ((with_reducible refine gate_callee (f := 89) rfl ?_); refine goesL_ (some 47) rfl rfl Try.func89 (by kernel_rfl) rfl #[.agg #[.int .i64 ((rd_T40 y297 (ji44)).f0), .int .i64 ((rd_T40 y297 (ji44)).f1)]] rfl (by (try simp only [List.map_toArray, List.map_cons, List.map_nil]); first | done | (simp only [hji44]; rfl) | rfl | (simp only [List.length_drop, List.length_take]; rfl)) ?_; (with_reducible refine (impl_Block_last.calls ((rd_T40 y297 (ji44)).f0) ((rd_T40 y297 (ji44)).f1) t301 _ A47.out).mono ?_); rintro e w52 ⟨rfl, hb⟩; refine ⟨_, rfl, ?_⟩; replace HO299 := Aside0.mk (Kd.R_below (zz13 HO299) hb); replace BK275 := Aside0.mk (blk_below (g := gb275) (o := .cells #[.int .i64 a0_0, .int .i64 a0_1] 68 (0, 0)) (zz5 BK275) hb); replace HB := Aside0.mk (below_step (zz4 GE275) hb); clear hb))
       go_roundg k2
       case measure => have := HK1.out; have := HK2.out; omega
       case rel => exact ⟨(y297), (wrap64 (t301 + 1)), zz8, H', ⟨zz16 HK1 HK2⟩, ⟨zz13 HO299⟩, ⟨zz5 BK275⟩, ⟨zz4 GE275⟩⟩
   ·obtain rfl := Option.some.inj H
    have hcz53_0 : wr.cell? ⟨gb275, 0, none⟩ = some (.int .i64 a0_0) := (blk_cell BK275.out 0).trans rfl
    have hcz53_1 : wr.cell? ⟨gb275, 1, none⟩ = some (.int .i64 a0_1) := (blk_cell BK275.out 1).trans rfl
    have hfz53_0 := blk_frozen BK275.out 0
    have hfz53_1 := blk_frozen BK275.out 1
    go_wp2
    go_ret
    exact ⟨_, zz6, zz13 HO_3, zz4 GE275⟩

end Go.Proofs.Ythkjkmgbdahggaa.PW
