/- A text printed by this session's wip/myprint.py over the kit's print: contracts of functions of the given program, each at what its Lean function says. -/
import Derived.Test.YthkjkmgbdahggaaPWx0
import Derived.Test.YthkjkmgbdahggaaPWx9
import Derived.Test.YthkjkmgbdahggaaPWx11
namespace Go.Proofs.Ythkjkmgbdahggaa.PW
open Go.RowKit Go.Proofs.YthkjkmgbdahggaaW.PrintWords Go.Proofs.YthkjkmgbdahggaaW.PrintLast Go.Proofs.YthkjkmgbdahggaaW.PrintMore Go.Proofs.Ythkjkmgbdahggaa.Sq
attribute [local go_sem] max2_int min2_int max_two min_two max_three min_three max_four min_four   -- for this text's walks alone
set_option linter.unusedVariables false
set_option linter.unusedSimpArgs false

/-! ### impl_byBlock: function 105 -/
def impl_byBlock.f (k : Nat) (a0_0 : Int) (a0_1 : Int) (a1_0 : Int) (a1_1 : Int) : Option (Int) := (cmp_Compare_int.f a0_0 a1_0).bind fun t340 => ((cmp_Compare_int.f a0_1 a1_1).bind fun t341 => ((cmp_Or_int.f k (([t340, t341] : List Int))).bind fun t345 => (some t345)))
theorem impl_byBlock.mono : ∀ a0 a1 a2 a3 k, LeO (impl_byBlock.f k a0 a1 a2 a3) (impl_byBlock.f (k + 1) a0 a1 a2 a3) := by
 intro a0 a1 a2 a3 k
 unfold impl_byBlock.f
 repeat' first
   | (with_reducible exact cmp_Or_int.mono _ _)
   | (with_reducible exact LeO.refl _)
   | (with_reducible exact LeO.none _)
   | (with_reducible refine LeO.ite ?_ ?_)
   | (with_reducible refine LeO.bind ?_ (fun _ => ?_))
   | exact cmp_Or_int.mono _ _
   | exact LeO.none _
   | refine LeO.ite ?_ ?_
   | refine LeO.bind ?_ (fun _ => ?_)
def impl_byBlock.T1 : Bool × List (List Nat × List Nat) := (true, [([], []), ([0], [0]), ([], []), ([2], [2]), ([1, 3], [1, 3]), ([], []), ([5], [5]), ([], []), ([7], [7]), ([6, 8, 4], [6, 8]), ([4, 9], [4, 9]), ([10, 9], [10]), ([11, 11, 0, 1, 2, 3, 4, 5, 6, 7, 8, 9, 10, 11], [11])])
def impl_byBlock.B1 : List Nat := [0, 1, 0, 4, 15, 0, 32, 0, 128, 511, 1023, 2047, 4095]
theorem impl_byBlock.tab1 : rtab .any (opsOf Try.f105 1) = impl_byBlock.T1 := by kernel_rfl
theorem impl_byBlock.bits1 : waitsOk impl_byBlock.T1.2 impl_byBlock.B1 = true := by kernel_rfl
set_option maxHeartbeats 8000000 in
set_option maxRecDepth 100000 in
theorem impl_byBlock.calls (k : Nat) (a0_0 : Int) (a0_1 : Int) (a1_0 : Int) (a1_1 : Int) (r : Int) (w : World) (h : impl_byBlock.f k a0_0 a0_1 a1_0 a1_1 = some r) :
  Calls Try.prog 105 #[.agg #[.int .i64 a0_0, .int .i64 a0_1], .agg #[.int .i64 a1_0, .int .i64 a1_1]] w fun e w' => e = .returned (.int .i64 r) ∧ Below w.heap.size w w' := by
 have hu40 := Try.underlying40
 have HB := Aside0.mk (Below.refl w.heap.size w)
 have H : ((cmp_Compare_int.f a0_0 a1_0).bind fun t340 => ((cmp_Compare_int.f a0_1 a1_1).bind fun t341 => ((cmp_Or_int.f k (([t340, t341] : List Int))).bind fun t345 => (some t345)))) = some r := h
 clear h
 replace H := bd H
 obtain ⟨t340, A3, H⟩ := H
 replace H : ((cmp_Compare_int.f a0_1 a1_1).bind fun t341 => ((cmp_Or_int.f k (([t340, t341] : List Int))).bind fun t345 => (some t345))) = some r := H
 replace H := bd H
 obtain ⟨t341, A4, H⟩ := H
 replace H : ((cmp_Or_int.f k (([t340, t341] : List Int))).bind fun t345 => (some t345)) = some r := H
 obtain ⟨y342, hy342⟩ : ∃ y_ : List Int, y_ = (([t340, t341] : List Int)) := ⟨_, rfl⟩
 replace H : ((cmp_Or_int.f k y342).bind fun t345 => (some t345)) = some r := by first | (rw [hy342]; with_reducible exact H) | (have H2_ := (Option.bind_some _ _).symm.trans H; rw [hy342]; with_reducible exact H2_) | (have H2_ := (Option.bind_some _ _).symm.trans H; with_reducible exact H2_) | with_reducible exact H | (rw [hy342]; exact H) | exact H
 have Ny342 := Aside0.mk hy342
 clear hy342
 replace H := bd H
 obtain ⟨t345, A5, H⟩ := H
 replace H : (some t345) = some r := H
 obtain rfl := Option.some.inj H
 go_enter Try.func105, Try.ntmps105
 try go_wp2_with (first | (refine be 2 #[.int .i64 a0_0, .int .i64 a0_1] 40 ?_; intro gb338 hg w6 hbox hb; have BK338 := Aside0.mk hbox; have GW338 := Aside0.mk (zz1 : w.heap.size ≤ gb338); have GE338 := Aside0.mk (zz1 : w.heap.size ≤ gb338); replace HB := Aside0.mk (below_step zz2 hb); clear hb hbox hg) | (refine be 3 #[.int .i64 a1_0, .int .i64 a1_1] 40 ?_; intro gb339 hg w7 hbox hb; have BK339 := Aside0.mk hbox; have GW339 := Aside0.mk (zz3 GE338 : w.heap.size ≤ gb339); have GE339 := Aside0.mk (zz3 GE338 : w.heap.size ≤ gb339); replace HB := Aside0.mk (below_step (zz4 GE338) hb); have NB338_339 := Aside0.mk (by rw [hg]; exact Nat.ne_of_lt (blk_lt (g := gb338) (o := .cells #[.int .i64 a0_0, .int .i64 a0_1] 40 (0, 0)) (zz5 BK338)) : gb338 ≠ gb339); have NB339_338 := Aside0.mk (by rw [hg]; exact Nat.ne_of_gt (blk_lt (g := gb338) (o := .cells #[.int .i64 a0_0, .int .i64 a0_1] 40 (0, 0)) (zz5 BK338)) : gb339 ≠ gb338); replace BK338 := Aside0.mk (blk_below (g := gb338) (o := .cells #[.int .i64 a0_0, .int .i64 a0_1] 40 (0, 0)) (zz5 BK338) hb); clear hb hbox hg))
 replace BK338 := Aside0.mk (blk_drew BK338.out)
 replace BK339 := Aside0.mk (blk_drew BK339.out)
 replace HB := Aside0.mk (below_drew1 HB.out)
 refine start_ (n := 13) (S := fun w' => w'.cell? ⟨gb338, 0, none⟩ = some (.int .i64 a0_0) ∧ w'.cell? ⟨gb338, 1, none⟩ = some (.int .i64 a0_1) ∧ w'.cell? ⟨gb339, 0, none⟩ = some (.int .i64 a1_0) ∧ w'.cell? ⟨gb339, 1, none⟩ = some (.int .i64 a1_1)) (ds := []) (bm 13 0) (by kernel_rfl) rfl rfl ⟨(blk_cell BK338.out 0).trans rfl, (blk_cell BK338.out 1).trans rfl, (blk_cell BK339.out 0).trans rfl, (blk_cell BK339.out 1).trans rfl⟩ (fun hHeld => ?_); refine with_tabW impl_byBlock.tab1 impl_byBlock.bits1 (fun HT_ HW_ => ?_)
 generalize w7.drew = w8 at BK338 BK339 HB hHeld ⊢
 refine pu 0 5 (bm 13 1) ?_
 refine pu 2 7 (bm 13 5) ?_
 refine pu 5 10 (bm 13 37) ?_
 refine pu 7 12 (bm 13 165) ?_
 refine tk 1 6 (bm 13 167) ?_
 refine tk 3 8 (bm 13 175) ?_
 refine tk 6 11 (bm 13 239) ?_
 refine tk 8 13 (bm 13 495) ?_
 refine on 4 (some 9) (bm 13 511) (fun K hK => ?_)
 refine gs Try.func101 #[.int .i64 a0_0, .int .i64 a1_0] ?_
 with_reducible refine (cmp_Compare_int.calls a0_0 a1_0 t340 _ A3.out).mono ?_
 rintro e w' ⟨rfl, ⟨nd, rfl⟩⟩
 refine ⟨_, rfl, ?_⟩
 refine hK.out _ _ ⟨(blk_cell BK338.out 0).trans rfl, (blk_cell BK338.out 1).trans rfl, (blk_cell BK339.out 0).trans rfl, (blk_cell BK339.out 1).trans rfl⟩ (fun hHeld => ?_)
 clear hK K
 refine nm 9 ?_
 refine on 9 (some 14) (bm 13 1023) (fun K hK => ?_)
 refine gs Try.func101 #[.int .i64 a0_1, .int .i64 a1_1] ?_
 with_reducible refine (cmp_Compare_int.calls a0_1 a1_1 t341 _ A4.out).mono ?_
 rintro e w' ⟨rfl, ⟨nd, rfl⟩⟩
 refine ⟨_, rfl, ?_⟩
 refine hK.out _ _ ⟨(blk_cell BK338.out 0).trans rfl, (blk_cell BK338.out 1).trans rfl, (blk_cell BK339.out 0).trans rfl, (blk_cell BK339.out 1).trans rfl⟩ (fun hHeld => ?_)
 clear hK K
 refine nm 14 ?_
 refine on 10 (some 15) (bm 13 2047) (fun K hK => ?_)
 refine rls (Kd.int .i64) 3 15 ([t340, t341] : List Int) [.int .i64 t340, .int .i64 t341] ?hp ?_; (case hp => exact (ro (ro (Reps.none _ _))))
 intro v343 w9 ho10 hb hg_ hnew_
 clear hg_ hnew_
 (first | rw [← Ny342.out] at ho10 | (simp only [Int.reduceToNat] at ho10; rw [← Ny342.out] at ho10))
 have HO344 := Aside0.mk (Kd.R_lower ho10 (below_size (zz7 GE338 GE339)))
 replace BK338 := Aside0.mk (blk_below (g := gb338) (o := .cells #[.int .i64 a0_0, .int .i64 a0_1] 40 (0, 0)) (zz5 BK338) hb)
 replace BK339 := Aside0.mk (blk_below (g := gb339) (o := .cells #[.int .i64 a1_0, .int .i64 a1_1] 40 (0, 0)) (zz5 BK339) hb)
 replace HB := Aside0.mk (below_step (zz7 GE338 GE339) hb)
 clear hb ho10
 obtain ⟨Ao11, co11, eo11⟩ := Kd.R_slice HO344.out
 (first | subst eo11 | (injection eo11 with f1_ f2_ f3_; have f4_ := f1_.symm; have f5_ := f3_.symm; clear f1_ f2_ f3_; subst f4_; subst f5_))
 refine hK.out _ _ ⟨(blk_cell BK338.out 0).trans rfl, (blk_cell BK338.out 1).trans rfl, (blk_cell BK339.out 0).trans rfl, (blk_cell BK339.out 1).trans rfl⟩ (fun hHeld => ?_)
 clear hK K
 refine nm 15 ?_
 refine on 11 (some 16) (bm 13 4095) (fun K hK => ?_)
 refine gs Try.func114 #[.slice Ao11 y342.length co11] ?_
 with_reducible refine (cmp_Or_int.calls k _ _ y342 t345 _ ?side1 ?side2 A5.out).mono ?_
 (case side1 => exact zz33 HO344)
 (case side2 => exact zz42 HO344)
 rintro e w' ⟨rfl, ⟨nd, rfl⟩⟩
 refine ⟨_, rfl, ?_⟩
 refine hK.out _ _ ⟨(blk_cell BK338.out 0).trans rfl, (blk_cell BK338.out 1).trans rfl, (blk_cell BK339.out 0).trans rfl, (blk_cell BK339.out 1).trans rfl⟩ (fun hHeld => ?_)
 clear hK K
 refine nm 16 ?_
 refine pu 12 4 (bm 13 8191) ?_
 refine done_ (done_of HT_.out (by kernel_rfl)) ?_
 try go_wp2
 go_ret
 exact ⟨zz6, zz7 GE338 GE339⟩

end Go.Proofs.Ythkjkmgbdahggaa.PW
