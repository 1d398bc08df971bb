/- A text printed by this session's wip/myprint.py over the kit's print: contracts of functions of the given program, each at what its Lean function says. -/
import Derived.Test.YthkjkmgbdahggaaGreatPYx0
import Derived.Test.YthkjkmgbdahggaaGreatPYx7
namespace Go.Proofs.YthkjkmgbdahggaaGreat.PY
open Go.RowKit Go.Proofs.YthkjkmgbdahggaaGreatW.PrintWords Go.Proofs.YthkjkmgbdahggaaGreatW.PrintLast Go.Proofs.YthkjkmgbdahggaaGreatW.PrintMore Go.Proofs.YthkjkmgbdahggaaGreat.Sq
attribute [local go_sem] max2_int min2_int max_two min_two max_three min_three max_four min_four   -- for this text's walks alone
set_option linter.unusedVariables false
set_option linter.unusedSimpArgs false
def impl_byBlock.f (k : Nat) (a0_0 : Int) (a0_1 : Int) (a1_0 : Int) (a1_1 : Int) : Option (Int) := (cmp_Compare_int.f a0_0 a1_0).bind fun t281 => ((cmp_Compare_int.f a0_1 a1_1).bind fun t282 => ((cmp_Or_int.f k (([t281, t282] : List Int))).bind fun t286 => (some t286)))
def impl_byBlock.T1 : Bool × List (List Nat × List Nat) := (true, [([], []), ([0], [0]), ([], []), ([2], [2]), ([1, 3], [1, 3]), ([], []), ([5], [5]), ([], []), ([7], [7]), ([6, 8, 4], [6, 8]), ([4, 9], [4, 9]), ([10, 9], [10]), ([11, 11, 0, 1, 2, 3, 4, 5, 6, 7, 8, 9, 10, 11], [11])])
def impl_byBlock.B1 : List Nat := [0, 1, 0, 4, 15, 0, 32, 0, 128, 511, 1023, 2047, 4095]
theorem impl_byBlock.tab1 : rtab .any (opsOf Tryz.f41 1) = impl_byBlock.T1 := by kernel_rfl
theorem impl_byBlock.bits1 : waitsOk impl_byBlock.T1.2 impl_byBlock.B1 = true := by kernel_rfl
set_option maxHeartbeats 8000000 in
set_option maxRecDepth 100000 in
theorem impl_byBlock.calls (k : Nat) (a0_0 : Int) (a0_1 : Int) (a1_0 : Int) (a1_1 : Int) (r : Int) (w : World) (h : impl_byBlock.f k a0_0 a0_1 a1_0 a1_1 = some r) :
  Calls Tryz.prog 41 #[.agg #[.int .i64 a0_0, .int .i64 a0_1], .agg #[.int .i64 a1_0, .int .i64 a1_1]] w fun e w' => e = .returned (.int .i64 r) ∧ Below w.heap.size w w' := by
 have hu32 := Tryz.underlying32
 have HB := Aside0.mk (Below.refl w.heap.size w)
 have H : ((cmp_Compare_int.f a0_0 a1_0).bind fun t281 => ((cmp_Compare_int.f a0_1 a1_1).bind fun t282 => ((cmp_Or_int.f k (([t281, t282] : List Int))).bind fun t286 => (some t286)))) = some r := h
 clear h
 replace H := bd H
 obtain ⟨t281, A3, H⟩ := H
 replace H : ((cmp_Compare_int.f a0_1 a1_1).bind fun t282 => ((cmp_Or_int.f k (([t281, t282] : List Int))).bind fun t286 => (some t286))) = some r := H
 replace H := bd H
 obtain ⟨t282, A4, H⟩ := H
 replace H : ((cmp_Or_int.f k (([t281, t282] : List Int))).bind fun t286 => (some t286)) = some r := H
 obtain ⟨y283, hy283⟩ : ∃ y_ : List Int, y_ = (([t281, t282] : List Int)) := ⟨_, rfl⟩
 replace H : ((cmp_Or_int.f k y283).bind fun t286 => (some t286)) = some r := by first | (rw [hy283]; with_reducible exact H) | (have H2_ := (Option.bind_some _ _).symm.trans H; rw [hy283]; with_reducible exact H2_) | (have H2_ := (Option.bind_some _ _).symm.trans H; with_reducible exact H2_) | with_reducible exact H | (rw [hy283]; exact H) | exact H
 have Ny283 := Aside0.mk hy283
 clear hy283
 replace H := bd H
 obtain ⟨t286, A5, H⟩ := H
 replace H : (some t286) = some r := H
 obtain rfl := Option.some.inj H
 go_enter Tryz.func41, Tryz.ntmps41
 try go_wp2_with (first | (refine be 2 #[.int .i64 a0_0, .int .i64 a0_1] 32 ?_; intro gb279 hg w6 hbox hb; have BK279 := Aside0.mk hbox; have GW279 := Aside0.mk (zz16 : w.heap.size ≤ gb279); have GE279 := Aside0.mk (zz16 : w.heap.size ≤ gb279); replace HB := Aside0.mk (below_step zz3 hb); clear hb hbox hg) | (refine be 3 #[.int .i64 a1_0, .int .i64 a1_1] 32 ?_; intro gb280 hg w7 hbox hb; have BK280 := Aside0.mk hbox; have GW280 := Aside0.mk (zz17 GE279 : w.heap.size ≤ gb280); have GE280 := Aside0.mk (zz17 GE279 : w.heap.size ≤ gb280); replace HB := Aside0.mk (below_step (zz6 GE279) hb); have NB279_280 := Aside0.mk (by rw [hg]; exact Nat.ne_of_lt (blk_lt (g := gb279) (o := .cells #[.int .i64 a0_0, .int .i64 a0_1] 32 (0, 0)) (zz5 BK279)) : gb279 ≠ gb280); have NB280_279 := Aside0.mk (by rw [hg]; exact Nat.ne_of_gt (blk_lt (g := gb279) (o := .cells #[.int .i64 a0_0, .int .i64 a0_1] 32 (0, 0)) (zz5 BK279)) : gb280 ≠ gb279); replace BK279 := Aside0.mk (blk_below (g := gb279) (o := .cells #[.int .i64 a0_0, .int .i64 a0_1] 32 (0, 0)) (zz5 BK279) hb); clear hb hbox hg))
 replace BK279 := Aside0.mk (blk_drew BK279.out)
 replace BK280 := Aside0.mk (blk_drew BK280.out)
 replace HB := Aside0.mk (below_drew1 HB.out)
 refine start_ (n := 13) (S := fun w' => w'.cell? ⟨gb279, 0, none⟩ = some (.int .i64 a0_0) ∧ w'.cell? ⟨gb279, 1, none⟩ = some (.int .i64 a0_1) ∧ w'.cell? ⟨gb280, 0, none⟩ = some (.int .i64 a1_0) ∧ w'.cell? ⟨gb280, 1, none⟩ = some (.int .i64 a1_1)) (ds := []) (bm 13 0) (by kernel_rfl) rfl rfl ⟨(blk_cell BK279.out 0).trans rfl, (blk_cell BK279.out 1).trans rfl, (blk_cell BK280.out 0).trans rfl, (blk_cell BK280.out 1).trans rfl⟩ (fun hHeld => ?_); refine with_tabW impl_byBlock.tab1 impl_byBlock.bits1 (fun HT_ HW_ => ?_)
 generalize w7.drew = w8 at BK279 BK280 HB hHeld ⊢
 refine pu 0 5 (bm 13 1) ?_
 refine pu 2 7 (bm 13 5) ?_
 refine pu 5 10 (bm 13 37) ?_
 refine pu 7 12 (bm 13 165) ?_
 refine tk 1 6 (bm 13 167) ?_
 refine tk 3 8 (bm 13 175) ?_
 refine tk 6 11 (bm 13 239) ?_
 refine tk 8 13 (bm 13 495) ?_
 refine on 4 (some 9) (bm 13 511) (fun K hK => ?_)
 refine gs Tryz.func59 #[.int .i64 a0_0, .int .i64 a1_0] ?_
 with_reducible refine (cmp_Compare_int.calls a0_0 a1_0 t281 _ A3.out).mono ?_
 rintro e w' ⟨rfl, ⟨nd, rfl⟩⟩
 refine ⟨_, rfl, ?_⟩
 refine hK.out _ _ ⟨(blk_cell BK279.out 0).trans rfl, (blk_cell BK279.out 1).trans rfl, (blk_cell BK280.out 0).trans rfl, (blk_cell BK280.out 1).trans rfl⟩ (fun hHeld => ?_)
 clear hK K
 refine nm 9 ?_
 refine on 9 (some 14) (bm 13 1023) (fun K hK => ?_)
 refine gs Tryz.func59 #[.int .i64 a0_1, .int .i64 a1_1] ?_
 with_reducible refine (cmp_Compare_int.calls a0_1 a1_1 t282 _ A4.out).mono ?_
 rintro e w' ⟨rfl, ⟨nd, rfl⟩⟩
 refine ⟨_, rfl, ?_⟩
 refine hK.out _ _ ⟨(blk_cell BK279.out 0).trans rfl, (blk_cell BK279.out 1).trans rfl, (blk_cell BK280.out 0).trans rfl, (blk_cell BK280.out 1).trans rfl⟩ (fun hHeld => ?_)
 clear hK K
 refine nm 14 ?_
 refine on 10 (some 15) (bm 13 2047) (fun K hK => ?_)
 refine rls (Kd.int .i64) 3 15 ([t281, t282] : List Int) [.int .i64 t281, .int .i64 t282] ?hp ?_; (case hp => exact (ro (ro (Reps.none _ _))))
 intro v284 w9 ho10 hb hg_ hnew_
 clear hg_ hnew_
 (first | rw [← Ny283.out] at ho10 | (simp only [Int.reduceToNat] at ho10; rw [← Ny283.out] at ho10))
 have HO285 := Aside0.mk (Kd.R_lower ho10 (below_size (zz18 GE279 GE280)))
 replace BK279 := Aside0.mk (blk_below (g := gb279) (o := .cells #[.int .i64 a0_0, .int .i64 a0_1] 32 (0, 0)) (zz5 BK279) hb)
 replace BK280 := Aside0.mk (blk_below (g := gb280) (o := .cells #[.int .i64 a1_0, .int .i64 a1_1] 32 (0, 0)) (zz5 BK280) hb)
 replace HB := Aside0.mk (below_step (zz18 GE279 GE280) hb)
 clear hb ho10
 obtain ⟨Ao11, co11, eo11⟩ := Kd.R_slice HO285.out
 (first | subst eo11 | (injection eo11 with f1_ f2_ f3_; have f4_ := f1_.symm; have f5_ := f3_.symm; clear f1_ f2_ f3_; subst f4_; subst f5_))
 refine hK.out _ _ ⟨(blk_cell BK279.out 0).trans rfl, (blk_cell BK279.out 1).trans rfl, (blk_cell BK280.out 0).trans rfl, (blk_cell BK280.out 1).trans rfl⟩ (fun hHeld => ?_)
 clear hK K
 refine nm 15 ?_
 refine on 11 (some 16) (bm 13 4095) (fun K hK => ?_)
 refine gs Tryz.func58 #[.slice Ao11 y283.length co11] ?_
 with_reducible refine (cmp_Or_int.calls k _ _ y283 t286 _ ?side1 ?side2 A5.out).mono ?_
 (case side1 => exact zz31 HO285)
 (case side2 => exact zz33 HO285)
 rintro e w' ⟨rfl, ⟨nd, rfl⟩⟩
 refine ⟨_, rfl, ?_⟩
 refine hK.out _ _ ⟨(blk_cell BK279.out 0).trans rfl, (blk_cell BK279.out 1).trans rfl, (blk_cell BK280.out 0).trans rfl, (blk_cell BK280.out 1).trans rfl⟩ (fun hHeld => ?_)
 clear hK K
 refine nm 16 ?_
 refine pu 12 4 (bm 13 8191) ?_
 refine done_ (done_of HT_.out (by kernel_rfl)) ?_
 try go_wp2
 go_ret
 exact ⟨zz13, zz18 GE279 GE280⟩
end Go.Proofs.YthkjkmgbdahggaaGreat.PY
