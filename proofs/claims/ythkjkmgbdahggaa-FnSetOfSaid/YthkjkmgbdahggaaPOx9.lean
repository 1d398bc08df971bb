/- A text printed by this session's wip/myprint.py over the kit's print: contracts of functions of the given program, each at what its Lean function says. -/
import Derived.Test.YthkjkmgbdahggaaPOx0
import Derived.Test.YthkjkmgbdahggaaPOx3
import Derived.Test.YthkjkmgbdahggaaPOx7
import Derived.Test.YthkjkmgbdahggaaPOx8
namespace Go.Proofs.Ythkjkmgbdahggaa.PO
open Go.RowKit Go.Proofs.YthkjkmgbdahggaaW.PrintWords Go.Proofs.YthkjkmgbdahggaaW.PrintLast Go.Proofs.YthkjkmgbdahggaaW.PrintMore Go.Proofs.Ythkjkmgbdahggaa.Sq
attribute [local go_sem] max2_int min2_int max_two min_two max_three min_three max_four min_four   -- for this text's walks alone
set_option linter.unusedVariables false
set_option linter.unusedSimpArgs false

/-! ### spec_l12AnyBlock: function 63 -/
def spec_l12AnyBlock.f (k : Nat) (s0_0 : List Int) (s0_1 : Int) : Option (Int × Int × Int) := (spec_l12Block.f k s0_0 s0_1).bind fun bt251 => ((spec_l1Rd_pick.f k s0_0 bt251.2.2 16).bind fun bt255 => (if bt255.1 = 0 then ((spec_l1Rd_one.f k s0_0 bt255.2 (([1, (-1), 256] : List Int))).bind fun bt260 => (some (wrap64 (bt251.1 + bt260.1), bt251.2.1, bt260.2))) else (if bt255.1 = 1 then ((spec_l1Rd_one.f k s0_0 bt255.2 (([(-1), 33, 0, 32] : List Int))).bind fun bt265 => (some (bt251.1, bt265.1, bt265.2))) else (some (bt251.1, bt251.2.1, bt255.2)))))
theorem spec_l12AnyBlock.mono : ∀ a0 a1 k, LeO (spec_l12AnyBlock.f k a0 a1) (spec_l12AnyBlock.f (k + 1) a0 a1) := by
 intro a0 a1 k
 unfold spec_l12AnyBlock.f
 repeat' first
   | (with_reducible exact spec_l12Block.mono _ _ _)
   | (with_reducible exact spec_l1Rd_one.mono _ _ _ _)
   | (with_reducible exact spec_l1Rd_pick.mono _ _ _ _)
   | (with_reducible exact LeO.refl _)
   | (with_reducible exact LeO.none _)
   | (with_reducible refine LeO.ite ?_ ?_)
   | (with_reducible refine LeO.bind ?_ (fun _ => ?_))
   | exact spec_l12Block.mono _ _ _
   | exact spec_l1Rd_one.mono _ _ _ _
   | exact spec_l1Rd_pick.mono _ _ _ _
   | exact LeO.none _
   | refine LeO.ite ?_ ?_
   | refine LeO.bind ?_ (fun _ => ?_)
def spec_l12AnyBlock.T4 : Bool × List (List Nat × List Nat) := (true, [([], []), ([0], [0]), ([], []), ([], []), ([2, 3], [2, 3]), ([1, 4], [1, 4]), ([0, 1, 2, 3, 4, 5], []), ([6, 5, 4, 0, 1, 2, 3, 4, 5], [5, 6])])
def spec_l12AnyBlock.B4 : List Nat := [0, 1, 0, 0, 12, 31, 63, 127]
theorem spec_l12AnyBlock.tab4 : rtab .any (opsOf Try.f63 4) = spec_l12AnyBlock.T4 := by kernel_rfl
theorem spec_l12AnyBlock.bits4 : waitsOk spec_l12AnyBlock.T4.2 spec_l12AnyBlock.B4 = true := by kernel_rfl
set_option maxHeartbeats 8000000 in
set_option maxRecDepth 100000 in
theorem spec_l12AnyBlock.calls (k : Nat) (g : Nat) (s0_0 : List Int) (s0_1 : Int) (r1 : Int) (r2 : Int) (r3 : Int) (w0 w : World) (hI : IsS103 w0 w g s0_0 s0_1) (hB : Below w0.heap.size w0 w) (h : spec_l12AnyBlock.f k s0_0 s0_1 = some (r1, r2, r3)) :
  Calls Try.prog 63 #[.pointer (some ⟨g, 0, none⟩)] w fun e w' => e = .returned (.agg #[.int .i64 r1, .int .i64 r2]) ∧ IsS103 w0 w' g s0_0 r3 ∧ Below w0.heap.size w0 w' ∧ KeepBut w w' g none := by
 have hu40 := Try.underlying40
 have HI0 := Aside0.mk hI
 have HK := Aside0.mk (KeepBut.refl w g none)
 have HL := Aside0.mk hB.size
 clear hI
 have HW0 := Aside0.mk hB.size
 have HB := Aside0.mk hB
 clear hB
 have H : ((spec_l12Block.f k s0_0 s0_1).bind fun bt251 => ((spec_l1Rd_pick.f k s0_0 bt251.2.2 16).bind fun bt255 => (if bt255.1 = 0 then ((spec_l1Rd_one.f k s0_0 bt255.2 (([1, (-1), 256] : List Int))).bind fun bt260 => (some (wrap64 (bt251.1 + bt260.1), bt251.2.1, bt260.2))) else (if bt255.1 = 1 then ((spec_l1Rd_one.f k s0_0 bt255.2 (([(-1), 33, 0, 32] : List Int))).bind fun bt265 => (some (bt251.1, bt265.1, bt265.2))) else (some (bt251.1, bt251.2.1, bt255.2)))))) = some (r1, r2, r3) := h
 clear h
 replace H := bd H
 obtain ⟨⟨t251, t252, t253⟩, A2, H⟩ := H
 replace H : ((spec_l1Rd_pick.f k s0_0 t253 16).bind fun bt255 => (if bt255.1 = 0 then ((spec_l1Rd_one.f k s0_0 bt255.2 (([1, (-1), 256] : List Int))).bind fun bt260 => (some (wrap64 (t251 + bt260.1), t252, bt260.2))) else (if bt255.1 = 1 then ((spec_l1Rd_one.f k s0_0 bt255.2 (([(-1), 33, 0, 32] : List Int))).bind fun bt265 => (some (t251, bt265.1, bt265.2))) else (some (t251, t252, bt255.2))))) = some (r1, r2, r3) := H
 replace H := bd H
 obtain ⟨⟨t255, t256⟩, A3, H⟩ := H
 replace H : (if t255 = 0 then ((spec_l1Rd_one.f k s0_0 t256 (([1, (-1), 256] : List Int))).bind fun bt260 => (some (wrap64 (t251 + bt260.1), t252, bt260.2))) else (if t255 = 1 then ((spec_l1Rd_one.f k s0_0 t256 (([(-1), 33, 0, 32] : List Int))).bind fun bt265 => (some (t251, bt265.1, bt265.2))) else (some (t251, t252, t256)))) = some (r1, r2, r3) := H
 by_cases c4 : t255 = 0
 ·rw [if_pos c4] at H
  have c4b0 : (t255 == 0) = true := beq_iff_eq.mpr c4
  have c4b1 : (t255 != 0) = false := bne_eq_false_iff_eq.mpr c4
  clear c4
  obtain ⟨y257, hy257⟩ : ∃ y_ : List Int, y_ = (([1, (-1), 256] : List Int)) := ⟨_, rfl⟩
  replace H : ((spec_l1Rd_one.f k s0_0 t256 y257).bind fun bt260 => (some (wrap64 (t251 + bt260.1), t252, bt260.2))) = some (r1, r2, r3) := by first | (rw [hy257]; with_reducible exact H) | (have H2_ := (Option.bind_some _ _).symm.trans H; rw [hy257]; with_reducible exact H2_) | (have H2_ := (Option.bind_some _ _).symm.trans H; with_reducible exact H2_) | with_reducible exact H | (rw [hy257]; exact H) | exact H
  have Ny257 := Aside0.mk hy257
  clear hy257
  replace H := bd H
  obtain ⟨⟨t260, t261⟩, A5, H⟩ := H
  replace H : (some (wrap64 (t251 + t260), t252, t261)) = some (r1, r2, r3) := H
  simp only [Option.some.injEq, Prod.mk.injEq] at H
  obtain ⟨rfl, rfl, rfl⟩ := H
  go_enter Try.func63, Try.ntmps63
  try go_wp2_with (first | (refine be 2 #[.int .i64 0, .int .i64 0] 40 ?_; intro gb250 hg w6 hbox hb; replace HB := Aside0.mk (below_step (zz28 HI0) hb); have BK250 := Aside0.mk hbox; have GW250 := Aside0.mk (zz29 : w.heap.size ≤ gb250); have GE250 := Aside0.mk (Nat.le_trans HW0.out (zz29 : w.heap.size ≤ gb250) : w0.heap.size ≤ gb250); replace HK := Aside0.mk (KeepBut.trans zz27 (KeepBut.of_below hb g none) (.inl rfl)); have NB0_250 := Aside0.mk (by rw [hg]; exact Nat.ne_of_lt (IsS103.lt (show IsS103 w0 _ g s0_0 s0_1 from zz26 HI0)) : g ≠ gb250); have NB250_0 := Aside0.mk (by rw [hg]; exact Nat.ne_of_gt (IsS103.lt (show IsS103 w0 _ g s0_0 s0_1 from zz26 HI0)) : gb250 ≠ g); replace HI0 := Aside0.mk (IsS103.below (zz26 HI0) hb); clear hb hbox hg) | (refine gc (some 5) Try.func93 #[.pointer (some ⟨g, 0, none⟩)] ?_; (with_reducible refine (spec_l12Block.calls k g s0_0 s0_1 t251 t252 t253 w0 _ ?side1 ?side2 A2.out).mono ?_); (case side1 => exact zz30 HI0 NB0_250); (case side2 => exact zz31 HI0 GE250); rintro e w7 ⟨rfl, hi, hb, hk⟩; refine ⟨_, rfl, ?_⟩; replace BK250 := Aside0.mk (KeepBut.blk hk (g' := gb250) (o := .cells #[.int .i64 0, .int .i64 0] 40 (0, 0)) (zz7 BK250) NB250_0.out (by simp)); replace HK := Aside0.mk (KeepBut.trans (zz32 GW250) hk (.inl rfl)); replace HB := Aside0.mk hb; replace HI0 := Aside0.mk hi; clear hb hk hi) | (refine be 3 #[.int .i64 0, .int .i64 0] 40 ?_; intro gb254 hg w8 hbox hb; replace HB := Aside0.mk (below_step (zz31 HI0 GE250) hb); have BK254 := Aside0.mk hbox; have GW254 := Aside0.mk (zz35 GW250 : w.heap.size ≤ gb254); have GE254 := Aside0.mk (Nat.le_trans HW0.out (zz35 GW250 : w.heap.size ≤ gb254) : w0.heap.size ≤ gb254); replace HK := Aside0.mk (KeepBut.trans (zz32 GW250) (KeepBut.of_below hb g none) (.inl rfl)); have NB250_254 := Aside0.mk (by rw [hg]; exact Nat.ne_of_lt (blk_lt (g := gb250) (o := .cells #[.int .i64 0, .int .i64 0] 40 (0, 0)) (zz7 BK250)) : gb250 ≠ gb254); have NB254_250 := Aside0.mk (by rw [hg]; exact Nat.ne_of_gt (blk_lt (g := gb250) (o := .cells #[.int .i64 0, .int .i64 0] 40 (0, 0)) (zz7 BK250)) : gb254 ≠ gb250); replace BK250 := Aside0.mk (blk_below (g := gb250) (o := .cells #[.int .i64 0, .int .i64 0] 40 (0, 0)) (zz7 BK250) hb); have NB0_254 := Aside0.mk (by rw [hg]; exact Nat.ne_of_lt (IsS103.lt (show IsS103 w0 _ g s0_0 t253 from zz30 HI0 NB0_250)) : g ≠ gb254); have NB254_0 := Aside0.mk (by rw [hg]; exact Nat.ne_of_gt (IsS103.lt (show IsS103 w0 _ g s0_0 t253 from zz30 HI0 NB0_250)) : gb254 ≠ g); replace HI0 := Aside0.mk (IsS103.below (zz30 HI0 NB0_250) hb); clear hb hbox hg; have hnb9 := NB254_250.out; have hnc9 := NB250_254.out; have hnb10 := NB254_0.out; have hnc10 := NB0_254.out; have hcz11_0 : w8.cell? ⟨gb254, 0, none⟩ = some (.int .i64 0) := (blk_cell BK254.out 0).trans rfl; have hcz11_1 : w8.cell? ⟨gb254, 1, none⟩ = some (.int .i64 0) := (blk_cell BK254.out 1).trans rfl; have hfz11_0 := blk_frozen BK254.out 0; have hfz11_1 := blk_frozen BK254.out 1) | (refine gc (some 7) Try.func44 #[.pointer (some ⟨g, 0, none⟩), .int .i64 16] ?_; (with_reducible refine (spec_l1Rd_pick.calls k g s0_0 t253 16 t255 t256 w0 _ ?side1 ?side2 A3.out).mono ?_); (case side1 => exact zz36 HI0 NB0_250 NB0_254); (case side2 => exact zz37 HI0 GE250 GE254); rintro e w12 ⟨rfl, hi, hb, hk⟩; refine ⟨_, rfl, ?_⟩; replace BK250 := Aside0.mk (KeepBut.blk hk (g' := gb250) (o := .cells #[.int .i64 0, .int .i64 0] 40 (0, 0)) (zz38 NB250_254 BK250) NB250_0.out (by simp)); replace BK254 := Aside0.mk (KeepBut.blk hk (g' := gb254) (o := .cells #[.int .i64 t251, .int .i64 t252] 40 (0, 0)) (by (with_reducible repeat (first | refine blk_drewN ?_ _ | refine blk_drew ?_ | refine blk_alloc ?_ _)); refine blk_put (cs := #[.int .i64 t251, .int .i64 0]) ?_ 1 _ rfl; (with_reducible repeat (first | refine blk_drewN ?_ _ | refine blk_drew ?_ | refine blk_alloc ?_ _)); refine blk_put (cs := #[.int .i64 0, .int .i64 0]) ?_ 0 _ rfl; (with_reducible repeat (first | refine blk_drewN ?_ _ | refine blk_drew ?_ | refine blk_alloc ?_ _)); exact BK254.out) NB254_0.out (by simp)); replace HK := Aside0.mk (KeepBut.trans (zz39 GW250 GW254) hk (.inl rfl)); replace HB := Aside0.mk hb; replace HI0 := Aside0.mk hi; clear hb hk hi))
  replace BK250 := Aside0.mk (blk_drew BK250.out)
  replace BK254 := Aside0.mk (blk_drew BK254.out)
  replace HI0 := Aside0.mk (IsS103.drew HI0.out)
  replace HK := Aside0.mk (keep_drew HK.out)
  replace HB := Aside0.mk (below_drew1 HB.out)
  refine start_ (n := 8) (S := fun w' => w'.cell? ⟨gb254, 0, none⟩ = some (.int .i64 t251) ∧ w'.cell? ⟨gb254, 1, none⟩ = some (.int .i64 t252)) (ds := [7]) (bm 8 0) (by kernel_rfl) rfl rfl ⟨(blk_cell BK254.out 0).trans rfl, (blk_cell BK254.out 1).trans rfl⟩ (fun hHeld => ?_); refine with_tabW spec_l12AnyBlock.tab4 spec_l12AnyBlock.bits4 (fun HT_ HW_ => ?_)
  generalize w12.drew = w13 at BK250 BK254 HI0 HK HB hHeld ⊢
  refine pu 0 10 (bm 8 1) ?_
  refine pu 2 12 (bm 8 5) ?_
  refine tk 1 11 (bm 8 7) ?_
  refine on 3 (some 13) (bm 8 15) (fun K hK => ?_)
  refine rls (Kd.int .i64) 3 13 ([1, (-1), 256] : List Int) [.int .i64 1, .int .i64 (-1), .int .i64 256] ?hp ?_; (case hp => exact (ro (ro (ro (Reps.none _ _)))))
  intro v258 w14 ho15 hb hg_ hnew_
  clear hg_ hnew_
  (first | rw [← Ny257.out] at ho15 | (simp only [Int.reduceToNat] at ho15; rw [← Ny257.out] at ho15))
  have HO259 := Aside0.mk (Kd.R_lower ho15 (keep_size (w := w) (g := g) (row := none) (zz39 GW250 GW254)))
  replace BK250 := Aside0.mk (blk_below (g := gb250) (o := .cells #[.int .i64 0, .int .i64 0] 40 (0, 0)) (zz7 BK250) hb)
  replace BK254 := Aside0.mk (blk_below (g := gb254) (o := .cells #[.int .i64 t251, .int .i64 t252] 40 (0, 0)) (zz7 BK254) hb)
  replace HK := Aside0.mk (KeepBut.trans (zz39 GW250 GW254) (KeepBut.of_below hb g none) (.inl rfl))
  replace HB := Aside0.mk (below_step (zz37 HI0 GE250 GE254) hb)
  replace HI0 := Aside0.mk (IsS103.below (zz36 HI0 NB0_250 NB0_254) hb)
  clear hb ho15
  obtain ⟨Ao16, co16, eo16⟩ := Kd.R_slice HO259.out
  (first | subst eo16 | (injection eo16 with f1_ f2_ f3_; have f4_ := f1_.symm; have f5_ := f3_.symm; clear f1_ f2_ f3_; subst f4_; subst f5_))
  refine hK.out _ _ ⟨(blk_cell BK254.out 0).trans rfl, (blk_cell BK254.out 1).trans rfl⟩ (fun hHeld => ?_)
  clear hK K
  refine nm 13 ?_
  refine on 4 (some 14) (bm 8 31) (fun K hK => ?_)
  refine gs Try.func45 #[.pointer (some ⟨g, 0, none⟩), .slice Ao16 y257.length co16] ?_
  with_reducible refine (spec_l1Rd_one.calls k g s0_0 t256 _ _ y257 t260 t261 w0 _ ?side1 ?side2 ?side3 ?side4 ?side5 A5.out).mono ?_
  (case side1 => exact zz36 HI0 NB0_250 NB0_254)
  (case side2 => exact zz37 HI0 GE250 GE254)
  (case side3 => exact zz19 HO259)
  (case side4 => exact zz22 HO259)
  (case side5 => exact far_slice (IsS103.own_ne HI0.out HO259.out (by decide)))
  rintro e w17 ⟨rfl, hi, hb, hk⟩
  refine ⟨_, rfl, ?_⟩
  replace BK250 := Aside0.mk (KeepBut.blk hk (g' := gb250) (o := .cells #[.int .i64 0, .int .i64 0] 40 (0, 0)) (zz7 BK250) NB250_0.out (by simp))
  replace BK254 := Aside0.mk (KeepBut.blk hk (g' := gb254) (o := .cells #[.int .i64 t251, .int .i64 t252] 40 (0, 0)) (zz7 BK254) NB254_0.out (by simp))
  replace HO259 := Aside0.mk (Kd.R_mono (Kd.R_keep (IsS103.apart (show IsS103 w0 _ g s0_0 t256 from zz36 HI0 NB0_250 NB0_254) (zz12 HO259) (by decide)) hk (fun _ h => h.2)) (fun _ h => h.1))
  replace HK := Aside0.mk (KeepBut.trans (zz39 GW250 GW254) hk (.inl rfl))
  replace HB := Aside0.mk hb
  replace HI0 := Aside0.mk hi
  (try clear hb)
  (try clear hb2)
  (try clear hk)
  (try clear hi)
  refine hK.out _ _ ⟨(blk_cell BK254.out 0).trans rfl, (blk_cell BK254.out 1).trans rfl⟩ (fun hHeld => ?_)
  clear hK K
  refine nm 14 ?_
  refine pu 5 15 (bm 8 63) ?_
  refine pu 6 16 (bm 8 127) ?_
  refine last_ (i := 7) (N := none) (bm 8 255) rfl rfl (one_of HT_.out (by kernel_rfl)) (by decide) (fun K hK => ?_)
  have hs18 : w17.cell? ⟨gb254, 0, none⟩ = some (.int .i64 t251) := (blk_cell BK254.out 0).trans rfl
  have hfs18 := blk_frozen BK254.out 0
  have hns18_0 := NB250_254.out
  have hms18_0 := NB254_250.out
  refine skip_ (w1 := ?_) (by rfl) rfl ?_ ?_
  rotate_left
  ·go_simp
   rfl
  refine hK.out _ _ ?_
  clear hK K
  refine done_ (done_of HT_.out (by kernel_rfl)) ?_
  have hcz19_0 : w17.cell? ⟨gb254, 0, none⟩ = some (.int .i64 t251) := (blk_cell BK254.out 0).trans rfl
  have hcz19_1 : w17.cell? ⟨gb254, 1, none⟩ = some (.int .i64 t252) := (blk_cell BK254.out 1).trans rfl
  have hfz19_0 := blk_frozen BK254.out 0
  have hfz19_1 := blk_frozen BK254.out 1
  have hnb20 := NB250_0.out
  have hnc20 := NB0_250.out
  have hcz21_0 : w17.cell? ⟨gb250, 0, none⟩ = some (.int .i64 0) := (blk_cell BK250.out 0).trans rfl
  have hcz21_1 : w17.cell? ⟨gb250, 1, none⟩ = some (.int .i64 0) := (blk_cell BK250.out 1).trans rfl
  have hfz21_0 := blk_frozen BK250.out 0
  have hfz21_1 := blk_frozen BK250.out 1
  try go_wp2
  refine bodyPost_ret (results_cell_row rfl _ _ gb250 40 #[.int .i64 (wrap64 (t251 + t260)), .int .i64 t252] (0, 0) _ rfl (by (with_reducible repeat (first | refine blk_drewN ?_ _ | refine blk_drew ?_ | refine blk_alloc ?_ _)); refine blk_put (cs := #[.int .i64 (wrap64 (t251 + t260)), .int .i64 0]) ?_ 1 _ rfl; (with_reducible repeat (first | refine blk_drewN ?_ _ | refine blk_drew ?_ | refine blk_alloc ?_ _)); refine blk_put (cs := #[.int .i64 0, .int .i64 0]) ?_ 0 _ rfl; (with_reducible repeat (first | refine blk_drewN ?_ _ | refine blk_drew ?_ | refine blk_alloc ?_ _)); refine blk_far ?_ NB250_254.out _; (with_reducible repeat (first | refine blk_drewN ?_ _ | refine blk_drew ?_ | refine blk_alloc ?_ _)); exact BK250.out) Try.underlying40 rfl (by kernel_rfl)) rfl ?_
  exact ⟨zz8, zz36 HI0 NB0_250 NB0_254, zz37 HI0 GE250 GE254, zz39 GW250 GW254⟩
 ·rw [if_neg c4] at H
  have c4b0 : (t255 == 0) = false := beq_eq_false_iff_ne.mpr c4
  have c4b1 : (t255 != 0) = true := bne_iff_ne.mpr c4
  by_cases c22 : t255 = 1
  ·rw [if_pos c22] at H
   have c22b0 : (t255 == 1) = true := beq_iff_eq.mpr c22
   have c22b1 : (t255 != 1) = false := bne_eq_false_iff_eq.mpr c22
   clear c22
   obtain ⟨y262, hy262⟩ : ∃ y_ : List Int, y_ = (([(-1), 33, 0, 32] : List Int)) := ⟨_, rfl⟩
   replace H : ((spec_l1Rd_one.f k s0_0 t256 y262).bind fun bt265 => (some (t251, bt265.1, bt265.2))) = some (r1, r2, r3) := by first | (rw [hy262]; with_reducible exact H) | (have H2_ := (Option.bind_some _ _).symm.trans H; rw [hy262]; with_reducible exact H2_) | (have H2_ := (Option.bind_some _ _).symm.trans H; with_reducible exact H2_) | with_reducible exact H | (rw [hy262]; exact H) | exact H
   have Ny262 := Aside0.mk hy262
   clear hy262
   replace H := bd H
   obtain ⟨⟨t265, t266⟩, A23, H⟩ := H
   replace H : (some (t251, t265, t266)) = some (r1, r2, r3) := H
   simp only [Option.some.injEq, Prod.mk.injEq] at H
   obtain ⟨rfl, rfl, rfl⟩ := H
   go_enter Try.func63, Try.ntmps63
   go_wp2_with (first | (refine be 2 #[.int .i64 0, .int .i64 0] 40 ?_; intro gb250 hg w24 hbox hb; replace HB := Aside0.mk (below_step (zz28 HI0) hb); have BK250 := Aside0.mk hbox; have GW250 := Aside0.mk (zz29 : w.heap.size ≤ gb250); have GE250 := Aside0.mk (Nat.le_trans HW0.out (zz29 : w.heap.size ≤ gb250) : w0.heap.size ≤ gb250); replace HK := Aside0.mk (KeepBut.trans zz27 (KeepBut.of_below hb g none) (.inl rfl)); have NB0_250 := Aside0.mk (by rw [hg]; exact Nat.ne_of_lt (IsS103.lt (show IsS103 w0 _ g s0_0 s0_1 from zz26 HI0)) : g ≠ gb250); have NB250_0 := Aside0.mk (by rw [hg]; exact Nat.ne_of_gt (IsS103.lt (show IsS103 w0 _ g s0_0 s0_1 from zz26 HI0)) : gb250 ≠ g); replace HI0 := Aside0.mk (IsS103.below (zz26 HI0) hb); clear hb hbox hg) | (refine gc (some 5) Try.func93 #[.pointer (some ⟨g, 0, none⟩)] ?_; (with_reducible refine (spec_l12Block.calls k g s0_0 s0_1 t251 t252 t253 w0 _ ?side1 ?side2 A2.out).mono ?_); (case side1 => exact zz30 HI0 NB0_250); (case side2 => exact zz31 HI0 GE250); rintro e w25 ⟨rfl, hi, hb, hk⟩; refine ⟨_, rfl, ?_⟩; replace BK250 := Aside0.mk (KeepBut.blk hk (g' := gb250) (o := .cells #[.int .i64 0, .int .i64 0] 40 (0, 0)) (zz7 BK250) NB250_0.out (by simp)); replace HK := Aside0.mk (KeepBut.trans (zz32 GW250) hk (.inl rfl)); replace HB := Aside0.mk hb; replace HI0 := Aside0.mk hi; clear hb hk hi) | (refine be 3 #[.int .i64 0, .int .i64 0] 40 ?_; intro gb254 hg w26 hbox hb; replace HB := Aside0.mk (below_step (zz31 HI0 GE250) hb); have BK254 := Aside0.mk hbox; have GW254 := Aside0.mk (zz35 GW250 : w.heap.size ≤ gb254); have GE254 := Aside0.mk (Nat.le_trans HW0.out (zz35 GW250 : w.heap.size ≤ gb254) : w0.heap.size ≤ gb254); replace HK := Aside0.mk (KeepBut.trans (zz32 GW250) (KeepBut.of_below hb g none) (.inl rfl)); have NB250_254 := Aside0.mk (by rw [hg]; exact Nat.ne_of_lt (blk_lt (g := gb250) (o := .cells #[.int .i64 0, .int .i64 0] 40 (0, 0)) (zz7 BK250)) : gb250 ≠ gb254); have NB254_250 := Aside0.mk (by rw [hg]; exact Nat.ne_of_gt (blk_lt (g := gb250) (o := .cells #[.int .i64 0, .int .i64 0] 40 (0, 0)) (zz7 BK250)) : gb254 ≠ gb250); replace BK250 := Aside0.mk (blk_below (g := gb250) (o := .cells #[.int .i64 0, .int .i64 0] 40 (0, 0)) (zz7 BK250) hb); have NB0_254 := Aside0.mk (by rw [hg]; exact Nat.ne_of_lt (IsS103.lt (show IsS103 w0 _ g s0_0 t253 from zz30 HI0 NB0_250)) : g ≠ gb254); have NB254_0 := Aside0.mk (by rw [hg]; exact Nat.ne_of_gt (IsS103.lt (show IsS103 w0 _ g s0_0 t253 from zz30 HI0 NB0_250)) : gb254 ≠ g); replace HI0 := Aside0.mk (IsS103.below (zz30 HI0 NB0_250) hb); clear hb hbox hg; have hnb27 := NB254_250.out; have hnc27 := NB250_254.out; have hnb28 := NB254_0.out; have hnc28 := NB0_254.out; have hcz29_0 : w26.cell? ⟨gb254, 0, none⟩ = some (.int .i64 0) := (blk_cell BK254.out 0).trans rfl; have hcz29_1 : w26.cell? ⟨gb254, 1, none⟩ = some (.int .i64 0) := (blk_cell BK254.out 1).trans rfl; have hfz29_0 := blk_frozen BK254.out 0; have hfz29_1 := blk_frozen BK254.out 1) | (refine gc (some 7) Try.func44 #[.pointer (some ⟨g, 0, none⟩), .int .i64 16] ?_; (with_reducible refine (spec_l1Rd_pick.calls k g s0_0 t253 16 t255 t256 w0 _ ?side1 ?side2 A3.out).mono ?_); (case side1 => exact zz36 HI0 NB0_250 NB0_254); (case side2 => exact zz37 HI0 GE250 GE254); rintro e w30 ⟨rfl, hi, hb, hk⟩; refine ⟨_, rfl, ?_⟩; replace BK250 := Aside0.mk (KeepBut.blk hk (g' := gb250) (o := .cells #[.int .i64 0, .int .i64 0] 40 (0, 0)) (zz38 NB250_254 BK250) NB250_0.out (by simp)); replace BK254 := Aside0.mk (KeepBut.blk hk (g' := gb254) (o := .cells #[.int .i64 t251, .int .i64 t252] 40 (0, 0)) (by (with_reducible repeat (first | refine blk_drewN ?_ _ | refine blk_drew ?_ | refine blk_alloc ?_ _)); refine blk_put (cs := #[.int .i64 t251, .int .i64 0]) ?_ 1 _ rfl; (with_reducible repeat (first | refine blk_drewN ?_ _ | refine blk_drew ?_ | refine blk_alloc ?_ _)); refine blk_put (cs := #[.int .i64 0, .int .i64 0]) ?_ 0 _ rfl; (with_reducible repeat (first | refine blk_drewN ?_ _ | refine blk_drew ?_ | refine blk_alloc ?_ _)); exact BK254.out) NB254_0.out (by simp)); replace HK := Aside0.mk (KeepBut.trans (zz39 GW250 GW254) hk (.inl rfl)); replace HB := Aside0.mk hb; replace HI0 := Aside0.mk hi; clear hb hk hi) | (refine gt 20 ?_; refine rl (Kd.int .i64) 3 20 ([(-1), 33, 0, 32] : List Int) [.int .i64 (-1), .int .i64 33, .int .i64 0, .int .i64 32] ?hp ?_; (case hp => exact (ro (ro (ro (ro (Reps.none _ _)))))); intro v263 w31 ho32 hb hg_ hnew_; clear hg_ hnew_; (first | rw [← Ny262.out] at ho32 | (simp only [Int.reduceToNat] at ho32; rw [← Ny262.out] at ho32)); have HO264 := Aside0.mk (Kd.R_lower ho32 (keep_size (w := w) (g := g) (row := none) (zz39 GW250 GW254))); replace BK250 := Aside0.mk (blk_below (g := gb250) (o := .cells #[.int .i64 0, .int .i64 0] 40 (0, 0)) (zz7 BK250) hb); replace BK254 := Aside0.mk (blk_below (g := gb254) (o := .cells #[.int .i64 t251, .int .i64 t252] 40 (0, 0)) (zz7 BK254) hb); replace HK := Aside0.mk (KeepBut.trans (zz39 GW250 GW254) (KeepBut.of_below hb g none) (.inl rfl)); replace HB := Aside0.mk (below_step (zz37 HI0 GE250 GE254) hb); replace HI0 := Aside0.mk (IsS103.below (zz36 HI0 NB0_250 NB0_254) hb); clear hb ho32; obtain ⟨Ao33, co33, eo33⟩ := Kd.R_slice HO264.out; subst eo33) | (refine gc (some 21) Try.func45 #[.pointer (some ⟨g, 0, none⟩), .slice Ao33 y262.length co33] ?_; (with_reducible refine (spec_l1Rd_one.calls k g s0_0 t256 _ _ y262 t265 t266 w0 _ ?side1 ?side2 ?side3 ?side4 ?side5 A23.out).mono ?_); (case side1 => exact zz36 HI0 NB0_250 NB0_254); (case side2 => exact zz37 HI0 GE250 GE254); (case side3 => exact zz19 HO264); (case side4 => exact zz22 HO264); (case side5 => exact far_slice (IsS103.own_ne HI0.out HO264.out (by decide))); rintro e w34 ⟨rfl, hi, hb, hk⟩; refine ⟨_, rfl, ?_⟩; replace BK250 := Aside0.mk (KeepBut.blk hk (g' := gb250) (o := .cells #[.int .i64 0, .int .i64 0] 40 (0, 0)) (zz7 BK250) NB250_0.out (by simp)); replace BK254 := Aside0.mk (KeepBut.blk hk (g' := gb254) (o := .cells #[.int .i64 t251, .int .i64 t252] 40 (0, 0)) (zz7 BK254) NB254_0.out (by simp)); replace HO264 := Aside0.mk (Kd.R_mono (Kd.R_keep (IsS103.apart (show IsS103 w0 _ g s0_0 t256 from zz36 HI0 NB0_250 NB0_254) (zz12 HO264) (by decide)) hk (fun _ h => h.2)) (fun _ h => h.1)); replace HK := Aside0.mk (KeepBut.trans (zz39 GW250 GW254) hk (.inl rfl)); replace HB := Aside0.mk hb; replace HI0 := Aside0.mk hi; clear hb hk hi; have hcz35_0 : w34.cell? ⟨gb254, 0, none⟩ = some (.int .i64 t251) := (blk_cell BK254.out 0).trans rfl; have hcz35_1 : w34.cell? ⟨gb254, 1, none⟩ = some (.int .i64 t252) := (blk_cell BK254.out 1).trans rfl; have hfz35_0 := blk_frozen BK254.out 0; have hfz35_1 := blk_frozen BK254.out 1; have hnb36 := NB250_0.out; have hnc36 := NB0_250.out; have hcz37_0 : w34.cell? ⟨gb250, 0, none⟩ = some (.int .i64 0) := (blk_cell BK250.out 0).trans rfl; have hcz37_1 : w34.cell? ⟨gb250, 1, none⟩ = some (.int .i64 0) := (blk_cell BK250.out 1).trans rfl; have hfz37_0 := blk_frozen BK250.out 0; have hfz37_1 := blk_frozen BK250.out 1))
   refine bodyPost_ret (results_cell_row rfl _ _ gb250 40 #[.int .i64 t251, .int .i64 t265] (0, 0) _ rfl (by (with_reducible repeat (first | refine blk_drewN ?_ _ | refine blk_drew ?_ | refine blk_alloc ?_ _)); refine blk_put (cs := #[.int .i64 t251, .int .i64 0]) ?_ 1 _ rfl; (with_reducible repeat (first | refine blk_drewN ?_ _ | refine blk_drew ?_ | refine blk_alloc ?_ _)); refine blk_put (cs := #[.int .i64 0, .int .i64 0]) ?_ 0 _ rfl; (with_reducible repeat (first | refine blk_drewN ?_ _ | refine blk_drew ?_ | refine blk_alloc ?_ _)); refine blk_far ?_ NB250_254.out _; (with_reducible repeat (first | refine blk_drewN ?_ _ | refine blk_drew ?_ | refine blk_alloc ?_ _)); exact BK250.out) Try.underlying40 rfl (by kernel_rfl)) rfl ?_
   exact ⟨zz8, zz36 HI0 NB0_250 NB0_254, zz37 HI0 GE250 GE254, zz39 GW250 GW254⟩
  ·rw [if_neg c22] at H
   have c22b0 : (t255 == 1) = false := beq_eq_false_iff_ne.mpr c22
   have c22b1 : (t255 != 1) = true := bne_iff_ne.mpr c22
   simp only [Option.some.injEq, Prod.mk.injEq] at H
   obtain ⟨rfl, rfl, rfl⟩ := H
   go_enter Try.func63, Try.ntmps63
   go_wp2_with (first | (refine be 2 #[.int .i64 0, .int .i64 0] 40 ?_; intro gb250 hg w38 hbox hb; replace HB := Aside0.mk (below_step (zz28 HI0) hb); have BK250 := Aside0.mk hbox; have GW250 := Aside0.mk (zz29 : w.heap.size ≤ gb250); have GE250 := Aside0.mk (Nat.le_trans HW0.out (zz29 : w.heap.size ≤ gb250) : w0.heap.size ≤ gb250); replace HK := Aside0.mk (KeepBut.trans zz27 (KeepBut.of_below hb g none) (.inl rfl)); have NB0_250 := Aside0.mk (by rw [hg]; exact Nat.ne_of_lt (IsS103.lt (show IsS103 w0 _ g s0_0 s0_1 from zz26 HI0)) : g ≠ gb250); have NB250_0 := Aside0.mk (by rw [hg]; exact Nat.ne_of_gt (IsS103.lt (show IsS103 w0 _ g s0_0 s0_1 from zz26 HI0)) : gb250 ≠ g); replace HI0 := Aside0.mk (IsS103.below (zz26 HI0) hb); clear hb hbox hg) | (refine gc (some 5) Try.func93 #[.pointer (some ⟨g, 0, none⟩)] ?_; (with_reducible refine (spec_l12Block.calls k g s0_0 s0_1 t251 t252 t253 w0 _ ?side1 ?side2 A2.out).mono ?_); (case side1 => exact zz30 HI0 NB0_250); (case side2 => exact zz31 HI0 GE250); rintro e w39 ⟨rfl, hi, hb, hk⟩; refine ⟨_, rfl, ?_⟩; replace BK250 := Aside0.mk (KeepBut.blk hk (g' := gb250) (o := .cells #[.int .i64 0, .int .i64 0] 40 (0, 0)) (zz7 BK250) NB250_0.out (by simp)); replace HK := Aside0.mk (KeepBut.trans (zz32 GW250) hk (.inl rfl)); replace HB := Aside0.mk hb; replace HI0 := Aside0.mk hi; clear hb hk hi) | (refine be 3 #[.int .i64 0, .int .i64 0] 40 ?_; intro gb254 hg w40 hbox hb; replace HB := Aside0.mk (below_step (zz31 HI0 GE250) hb); have BK254 := Aside0.mk hbox; have GW254 := Aside0.mk (zz35 GW250 : w.heap.size ≤ gb254); have GE254 := Aside0.mk (Nat.le_trans HW0.out (zz35 GW250 : w.heap.size ≤ gb254) : w0.heap.size ≤ gb254); replace HK := Aside0.mk (KeepBut.trans (zz32 GW250) (KeepBut.of_below hb g none) (.inl rfl)); have NB250_254 := Aside0.mk (by rw [hg]; exact Nat.ne_of_lt (blk_lt (g := gb250) (o := .cells #[.int .i64 0, .int .i64 0] 40 (0, 0)) (zz7 BK250)) : gb250 ≠ gb254); have NB254_250 := Aside0.mk (by rw [hg]; exact Nat.ne_of_gt (blk_lt (g := gb250) (o := .cells #[.int .i64 0, .int .i64 0] 40 (0, 0)) (zz7 BK250)) : gb254 ≠ gb250); replace BK250 := Aside0.mk (blk_below (g := gb250) (o := .cells #[.int .i64 0, .int .i64 0] 40 (0, 0)) (zz7 BK250) hb); have NB0_254 := Aside0.mk (by rw [hg]; exact Nat.ne_of_lt (IsS103.lt (show IsS103 w0 _ g s0_0 t253 from zz30 HI0 NB0_250)) : g ≠ gb254); have NB254_0 := Aside0.mk (by rw [hg]; exact Nat.ne_of_gt (IsS103.lt (show IsS103 w0 _ g s0_0 t253 from zz30 HI0 NB0_250)) : gb254 ≠ g); replace HI0 := Aside0.mk (IsS103.below (zz30 HI0 NB0_250) hb); clear hb hbox hg; have hnb41 := NB254_250.out; have hnc41 := NB250_254.out; have hnb42 := NB254_0.out; have hnc42 := NB0_254.out; have hcz43_0 : w40.cell? ⟨gb254, 0, none⟩ = some (.int .i64 0) := (blk_cell BK254.out 0).trans rfl; have hcz43_1 : w40.cell? ⟨gb254, 1, none⟩ = some (.int .i64 0) := (blk_cell BK254.out 1).trans rfl; have hfz43_0 := blk_frozen BK254.out 0; have hfz43_1 := blk_frozen BK254.out 1) | (refine gc (some 7) Try.func44 #[.pointer (some ⟨g, 0, none⟩), .int .i64 16] ?_; (with_reducible refine (spec_l1Rd_pick.calls k g s0_0 t253 16 t255 t256 w0 _ ?side1 ?side2 A3.out).mono ?_); (case side1 => exact zz36 HI0 NB0_250 NB0_254); (case side2 => exact zz37 HI0 GE250 GE254); rintro e w44 ⟨rfl, hi, hb, hk⟩; refine ⟨_, rfl, ?_⟩; replace BK250 := Aside0.mk (KeepBut.blk hk (g' := gb250) (o := .cells #[.int .i64 0, .int .i64 0] 40 (0, 0)) (zz38 NB250_254 BK250) NB250_0.out (by simp)); replace BK254 := Aside0.mk (KeepBut.blk hk (g' := gb254) (o := .cells #[.int .i64 t251, .int .i64 t252] 40 (0, 0)) (by (with_reducible repeat (first | refine blk_drewN ?_ _ | refine blk_drew ?_ | refine blk_alloc ?_ _)); refine blk_put (cs := #[.int .i64 t251, .int .i64 0]) ?_ 1 _ rfl; (with_reducible repeat (first | refine blk_drewN ?_ _ | refine blk_drew ?_ | refine blk_alloc ?_ _)); refine blk_put (cs := #[.int .i64 0, .int .i64 0]) ?_ 0 _ rfl; (with_reducible repeat (first | refine blk_drewN ?_ _ | refine blk_drew ?_ | refine blk_alloc ?_ _)); exact BK254.out) NB254_0.out (by simp)); replace HK := Aside0.mk (KeepBut.trans (zz39 GW250 GW254) hk (.inl rfl)); replace HB := Aside0.mk hb; replace HI0 := Aside0.mk hi; clear hb hk hi; have hcz45_0 : w44.cell? ⟨gb254, 0, none⟩ = some (.int .i64 t251) := (blk_cell BK254.out 0).trans rfl; have hcz45_1 : w44.cell? ⟨gb254, 1, none⟩ = some (.int .i64 t252) := (blk_cell BK254.out 1).trans rfl; have hfz45_0 := blk_frozen BK254.out 0; have hfz45_1 := blk_frozen BK254.out 1; have hnb46 := NB250_0.out; have hnc46 := NB0_250.out; have hcz47_0 : w44.cell? ⟨gb250, 0, none⟩ = some (.int .i64 0) := (blk_cell BK250.out 0).trans rfl; have hcz47_1 : w44.cell? ⟨gb250, 1, none⟩ = some (.int .i64 0) := (blk_cell BK250.out 1).trans rfl; have hfz47_0 := blk_frozen BK250.out 0; have hfz47_1 := blk_frozen BK250.out 1))
   refine bodyPost_ret (results_cell_row rfl _ _ gb250 40 #[.int .i64 t251, .int .i64 t252] (0, 0) _ rfl (by (with_reducible repeat (first | refine blk_drewN ?_ _ | refine blk_drew ?_ | refine blk_alloc ?_ _)); refine blk_put (cs := #[.int .i64 t251, .int .i64 0]) ?_ 1 _ rfl; (with_reducible repeat (first | refine blk_drewN ?_ _ | refine blk_drew ?_ | refine blk_alloc ?_ _)); refine blk_put (cs := #[.int .i64 0, .int .i64 0]) ?_ 0 _ rfl; (with_reducible repeat (first | refine blk_drewN ?_ _ | refine blk_drew ?_ | refine blk_alloc ?_ _)); exact BK250.out) Try.underlying40 rfl (by kernel_rfl)) rfl ?_
   exact ⟨zz8, zz36 HI0 NB0_250 NB0_254, zz37 HI0 GE250 GE254, zz39 GW250 GW254⟩

/-! ### spec_DrawSetOf: function 20 -/
def spec_DrawSetOf.f (k : Nat) (l0 : List Int) : Option ((List (S40))) := (spec_l1Open.f l0).bind fun bt267 => ((spec_l12Blocks.f k bt267.1 bt267.2).bind fun bt270 => ((spec_l1Rd_pick.f k bt267.1 bt270.2 12).bind fun bt274 => (if bt274.1 = 0 then ((spec_l12AnyBlock.f k bt267.1 bt274.2).bind fun bt276 => (if bt270.1.length < 8796093022208 then (some (bt270.1 ++ [(⟨bt276.1, bt276.2.1⟩ : S40)])) else (none))) else (some bt270.1))))
theorem spec_DrawSetOf.mono : ∀ a0 k, LeO (spec_DrawSetOf.f k a0) (spec_DrawSetOf.f (k + 1) a0) := by
 intro a0 k
 unfold spec_DrawSetOf.f
 repeat' first
   | (with_reducible exact spec_l12AnyBlock.mono _ _ _)
   | (with_reducible exact spec_l12Blocks.mono _ _ _)
   | (with_reducible exact spec_l1Rd_pick.mono _ _ _ _)
   | (with_reducible exact LeO.refl _)
   | (with_reducible exact LeO.none _)
   | (with_reducible refine LeO.ite ?_ ?_)
   | (with_reducible refine LeO.bind ?_ (fun _ => ?_))
   | exact spec_l12AnyBlock.mono _ _ _
   | exact spec_l12Blocks.mono _ _ _
   | exact spec_l1Rd_pick.mono _ _ _ _
   | exact LeO.none _
   | refine LeO.ite ?_ ?_
   | refine LeO.bind ?_ (fun _ => ?_)
set_option maxHeartbeats 8000000 in
set_option maxRecDepth 100000 in
theorem spec_DrawSetOf.calls (k : Nat) (A0 : Option Addr) (c0 : Nat) (l0 : List Int) (r : List (S40)) (w : World) (hr0 : Kd.C (Kd.int .u8) w A0 l0.length l0) (hc0 : l0.length ≤ c0) (h : spec_DrawSetOf.f k l0 = some r) :
  Calls Try.prog 20 #[.slice A0 l0.length c0] w fun e w' => ∃ v0_ : Value, e = .returned (v0_) ∧ Kd.R k40 40 w' w.heap.size (fun _ => True) v0_ r ∧ Below w.heap.size w w' := by
 have HR0 := Aside0.mk hr0
 have HC0 := Aside0.mk hc0
 clear hr0 hc0
 have HB := Aside0.mk (Below.refl w.heap.size w)
 have H : ((spec_l1Open.f l0).bind fun bt267 => ((spec_l12Blocks.f k bt267.1 bt267.2).bind fun bt270 => ((spec_l1Rd_pick.f k bt267.1 bt270.2 12).bind fun bt274 => (if bt274.1 = 0 then ((spec_l12AnyBlock.f k bt267.1 bt274.2).bind fun bt276 => (if bt270.1.length < 8796093022208 then (some (bt270.1 ++ [(⟨bt276.1, bt276.2.1⟩ : S40)])) else (none))) else (some bt270.1))))) = some r := h
 clear h
 replace H := bd H
 obtain ⟨⟨t267, t268⟩, A2, H⟩ := H
 replace H : ((spec_l12Blocks.f k t267 t268).bind fun bt270 => ((spec_l1Rd_pick.f k t267 bt270.2 12).bind fun bt274 => (if bt274.1 = 0 then ((spec_l12AnyBlock.f k t267 bt274.2).bind fun bt276 => (if bt270.1.length < 8796093022208 then (some (bt270.1 ++ [(⟨bt276.1, bt276.2.1⟩ : S40)])) else (none))) else (some bt270.1)))) = some r := H
 replace H := bd H
 obtain ⟨⟨t270, t273⟩, A3, H⟩ := H
 replace H : ((spec_l1Rd_pick.f k t267 t273 12).bind fun bt274 => (if bt274.1 = 0 then ((spec_l12AnyBlock.f k t267 bt274.2).bind fun bt276 => (if t270.length < 8796093022208 then (some (t270 ++ [(⟨bt276.1, bt276.2.1⟩ : S40)])) else (none))) else (some t270))) = some r := H
 replace H := bd H
 obtain ⟨⟨t274, t275⟩, A4, H⟩ := H
 replace H : (if t274 = 0 then ((spec_l12AnyBlock.f k t267 t275).bind fun bt276 => (if t270.length < 8796093022208 then (some (t270 ++ [(⟨bt276.1, bt276.2.1⟩ : S40)])) else (none))) else (some t270)) = some r := H
 by_cases c5 : t274 = 0
 ·rw [if_pos c5] at H
  have c5b0 : (t274 == 0) = true := beq_iff_eq.mpr c5
  have c5b1 : (t274 != 0) = false := bne_eq_false_iff_eq.mpr c5
  clear c5
  replace H := bd H
  obtain ⟨⟨t276, t277, t278⟩, A6, H⟩ := H
  replace H : (if t270.length < 8796093022208 then (some (t270 ++ [(⟨t276, t277⟩ : S40)])) else (none)) = some r := H
  replace H := gp H
  obtain ⟨c7, H⟩ := H
  have LMc7 := Aside0.mk c7
  clear c7
  obtain ⟨y279, hy279⟩ : ∃ y_ : List (S40), y_ = (t270 ++ [(⟨t276, t277⟩ : S40)]) := ⟨_, rfl⟩
  replace H : (some y279) = some r := by first | (rw [hy279]; with_reducible exact H) | (have H2_ := (Option.bind_some _ _).symm.trans H; rw [hy279]; with_reducible exact H2_) | (have H2_ := (Option.bind_some _ _).symm.trans H; with_reducible exact H2_) | with_reducible exact H | (rw [hy279]; exact H) | exact H
  have Ny279 := Aside0.mk hy279
  clear hy279
  obtain rfl := Option.some.inj H
  go_enter Try.func20, Try.ntmps20
  go_wp2_with (first | (refine gc (some 6) Try.func42 #[.slice A0 l0.length c0] ?_; (with_reducible refine (spec_l1Open.calls _ _ l0 t267 t268 w _ ?side1 ?side2 ?side3 A2.out).mono ?_); (case side1 => exact zz5); (case side2 => exact HR0.out); (case side3 => exact HC0.out); rintro e w8 ⟨g269, rfl, hi, hb, hb2⟩; refine ⟨_, rfl, ?_⟩; replace HB := Aside0.mk hb; have HI269 := Aside0.mk hi; clear hb hb2 hi) | (refine gc (some 8) Try.func62 #[.pointer (some ⟨g269, 0, none⟩)] ?_; (with_reducible refine (spec_l12Blocks.calls k g269 t267 t268 t270 t273 w _ ?side1 ?side2 A3.out).mono ?_); (case side1 => exact zz26 HI269); (case side2 => exact zz28 HI269); rintro e w9 ⟨v271, rfl, ho0, hi, hb, hk⟩; refine ⟨_, rfl, ?_⟩; have HO272 := Aside0.mk (Kd.R_lower ho0 (below_size (zz28 HI269))); replace HB := Aside0.mk hb; replace HI269 := Aside0.mk hi; clear hb hk hi ho0) | (refine gc (some 10) Try.func44 #[.pointer (some ⟨g269, 0, none⟩), .int .i64 12] ?_; (with_reducible refine (spec_l1Rd_pick.calls k g269 t267 t273 12 t274 t275 w _ ?side1 ?side2 A4.out).mono ?_); (case side1 => exact zz26 HI269); (case side2 => exact zz28 HI269); rintro e w10 ⟨rfl, hi, hb, hk⟩; refine ⟨_, rfl, ?_⟩; replace HO272 := Aside0.mk (Kd.R_mono (Kd.R_keep (IsS103.apart (show IsS103 w _ g269 t267 t273 from zz26 HI269) (zz12 HO272) (by decide)) hk (fun _ h => h.2)) (fun _ h => h.1)); replace HB := Aside0.mk hb; replace HI269 := Aside0.mk hi; clear hb hk hi) | (refine gc (some 14) Try.func63 #[.pointer (some ⟨g269, 0, none⟩)] ?_; (with_reducible refine (spec_l12AnyBlock.calls k g269 t267 t275 t276 t277 t278 w _ ?side1 ?side2 A6.out).mono ?_); (case side1 => exact zz26 HI269); (case side2 => exact zz28 HI269); rintro e w11 ⟨rfl, hi, hb, hk⟩; refine ⟨_, rfl, ?_⟩; replace HO272 := Aside0.mk (Kd.R_mono (Kd.R_keep (IsS103.apart (show IsS103 w _ g269 t267 t275 from zz26 HI269) (zz12 HO272) (by decide)) hk (fun _ h => h.2)) (fun _ h => h.1)); replace HB := Aside0.mk hb; replace HI269 := Aside0.mk hi; clear hb hk hi) | ((with_reducible refine gate_builtin (b := .append) (xs := #[.tmp 12, .tmp 15]) rfl ?_); at_builtin; refine Kd.R_append k40 (w0 := w) w.heap.size rfl (.tmp 12) (.tmp 15) 25 40 (.agg #[(.int .i64 0), (.int .i64 0)]) 16 rfl Try.underlying25 info40 rfl (by decide) (by omega) v271 t270 (⟨t276, t277⟩ : S40) [.int .i64 t276, .int .i64 t277] (fun _ => True) (fun _ => False) rfl rfl ?aP (fun _ hk => hk.elim) ?aF ?aO ?aB ?aS ?aL ?_; (case aP => exact k40_mkM _ _ _ (⟨t276, t277⟩ : S40)); (case aB => exact zz28 HI269); (case aF => exact zz13); (case aO => exact zz12 HO272); (case aS => exact (below_size (zz28 HI269))); (case aL => exact zz3 LMc7); intro v280 w12 ho hb hg hat; rw [← Ny279.out] at ho; replace HI269 := Aside0.mk (IsS103.grown (zz26 HI269) hg (IsS103.own_ne HI269.out HO272.out (by decide))); replace HB := Aside0.mk hb; have HO281 := Aside0.mk ho; clear HO272 ho hb hg hat))
  go_ret
  exact ⟨_, zz8, zz12 HO281, zz28 HI269⟩
 ·rw [if_neg c5] at H
  have c5b0 : (t274 == 0) = false := beq_eq_false_iff_ne.mpr c5
  have c5b1 : (t274 != 0) = true := bne_iff_ne.mpr c5
  obtain rfl := Option.some.inj H
  go_enter Try.func20, Try.ntmps20
  go_wp2_with (first | (refine gc (some 6) Try.func42 #[.slice A0 l0.length c0] ?_; (with_reducible refine (spec_l1Open.calls _ _ l0 t267 t268 w _ ?side1 ?side2 ?side3 A2.out).mono ?_); (case side1 => exact zz5); (case side2 => exact HR0.out); (case side3 => exact HC0.out); rintro e w13 ⟨g269, rfl, hi, hb, hb2⟩; refine ⟨_, rfl, ?_⟩; replace HB := Aside0.mk hb; have HI269 := Aside0.mk hi; clear hb hb2 hi) | (refine gc (some 8) Try.func62 #[.pointer (some ⟨g269, 0, none⟩)] ?_; (with_reducible refine (spec_l12Blocks.calls k g269 t267 t268 t270 t273 w _ ?side1 ?side2 A3.out).mono ?_); (case side1 => exact zz26 HI269); (case side2 => exact zz28 HI269); rintro e w14 ⟨v271, rfl, ho0, hi, hb, hk⟩; refine ⟨_, rfl, ?_⟩; have HO272 := Aside0.mk (Kd.R_lower ho0 (below_size (zz28 HI269))); replace HB := Aside0.mk hb; replace HI269 := Aside0.mk hi; clear hb hk hi ho0) | (refine gc (some 10) Try.func44 #[.pointer (some ⟨g269, 0, none⟩), .int .i64 12] ?_; (with_reducible refine (spec_l1Rd_pick.calls k g269 t267 t273 12 t274 t275 w _ ?side1 ?side2 A4.out).mono ?_); (case side1 => exact zz26 HI269); (case side2 => exact zz28 HI269); rintro e w15 ⟨rfl, hi, hb, hk⟩; refine ⟨_, rfl, ?_⟩; replace HO272 := Aside0.mk (Kd.R_mono (Kd.R_keep (IsS103.apart (show IsS103 w _ g269 t267 t273 from zz26 HI269) (zz12 HO272) (by decide)) hk (fun _ h => h.2)) (fun _ h => h.1)); replace HB := Aside0.mk hb; replace HI269 := Aside0.mk hi; clear hb hk hi))
  go_ret
  exact ⟨_, zz8, zz12 HO272, zz28 HI269⟩

/-! ### impl_limited: function 64 -/
def impl_limited.f (l0 : List (S40)) : Option ((List (S40)) × Bool) := if (l0.length : Int) > 64 then (some (([] : List (S40)), false)) else (some (l0, true))
set_option maxHeartbeats 8000000 in
set_option maxRecDepth 100000 in
theorem impl_limited.calls (P0_ : Nat → Prop) (u9000_ : Value) (l0 : List (S40)) (r1 : List (S40)) (r2 : Bool) (w0 w : World) (hB : Below w0.heap.size w0 w) (ho0 : Kd.R k40 40 w w0.heap.size P0_ u9000_ l0) (h : impl_limited.f l0 = some (r1, r2)) :
  Calls Try.prog 64 #[u9000_] w fun e w' => ∃ v0_ : Value, e = .returned (.tuple #[v0_, .bool r2]) ∧ Kd.R k40 40 w' w0.heap.size (fun k_ => (P0_ k_ ∨ w.heap.size ≤ k_)) v0_ r1 ∧ Below w0.heap.size w0 w' ∧ Kept w w' (fun k_ => P0_ k_) := by
 have HO0 := Aside0.mk (show Kd.R k40 40 w w0.heap.size (fun k_ => (P0_ k_ ∨ w.heap.size ≤ k_)) u9000_ l0 from Kd.R_mono ho0 (fun k_ hk => (.inl hk)))
 have HK := Aside0.mk (Kept.refl w (fun k_ => P0_ k_))
 have HW0 := Aside0.mk hB.size
 have HB := Aside0.mk hB
 clear hB
 have H : (if (l0.length : Int) > 64 then (some (([] : List (S40)), false)) else (some (l0, true))) = some (r1, r2) := h
 clear h
 by_cases c2 : (l0.length : Int) > 64
 ·rw [if_pos c2] at H
  have c2b0 : decide (64 < (l0.length : Int)) = true := decide_eq_true c2
  have c2b1 : decide (64 < l0.length) = true := decide_eq_true (by omega)
  clear c2
  simp only [Option.some.injEq, Prod.mk.injEq] at H
  obtain ⟨rfl, rfl⟩ := H
  obtain ⟨Ao3, co3, eo3⟩ := Kd.R_slice HO0.out
  subst eo3
  go_enter Try.func64, Try.ntmps64
  go_wp2
  go_ret2
  exact ⟨_, zz8, zz11, zz5, zz40⟩
 ·rw [if_neg c2] at H
  have c2b0 : decide (64 < (l0.length : Int)) = false := decide_eq_false c2
  have c2b1 : decide (64 < l0.length) = false := decide_eq_false (by omega)
  clear c2
  simp only [Option.some.injEq, Prod.mk.injEq] at H
  obtain ⟨rfl, rfl⟩ := H
  obtain ⟨Ao4, co4, eo4⟩ := Kd.R_slice HO0.out
  subst eo4
  go_enter Try.func64, Try.ntmps64
  go_wp2
  go_ret2
  exact ⟨_, zz8, zz12 HO0, zz5, zz40⟩

/-! ### impl_SetOf: function 21 -/
def impl_SetOf.f (k : Nat) (l0 : List (S40)) : Option ((List (S40)) × Bool) := (impl_blocksOk.f k l0).bind fun t282 => (if t282 = true then ((impl_spans.f k l0).bind fun t283 => ((impl_set.f k t283).bind fun t286 => ((impl_limited.f t286).bind fun bt289 => (some (bt289.1, bt289.2))))) else (some (([] : List (S40)), false)))
theorem impl_SetOf.mono : ∀ a0 k, LeO (impl_SetOf.f k a0) (impl_SetOf.f (k + 1) a0) := by
 intro a0 k
 unfold impl_SetOf.f
 repeat' first
   | (with_reducible exact impl_blocksOk.mono _ _)
   | (with_reducible exact impl_set.mono _ _)
   | (with_reducible exact impl_spans.mono _ _)
   | (with_reducible exact LeO.refl _)
   | (with_reducible exact LeO.none _)
   | (with_reducible refine LeO.ite ?_ ?_)
   | (with_reducible refine LeO.bind ?_ (fun _ => ?_))
   | exact impl_blocksOk.mono _ _
   | exact impl_set.mono _ _
   | exact impl_spans.mono _ _
   | exact LeO.none _
   | refine LeO.ite ?_ ?_
   | refine LeO.bind ?_ (fun _ => ?_)
set_option maxHeartbeats 8000000 in
set_option maxRecDepth 100000 in
theorem impl_SetOf.calls (k : Nat) (A0 : Option Addr) (c0 : Nat) (l0 : List (S40)) (r1 : List (S40)) (r2 : Bool) (w : World) (hr0 : Kd.C k40 w A0 l0.length l0) (hc0 : l0.length ≤ c0) (h : impl_SetOf.f k l0 = some (r1, r2)) :
  Calls Try.prog 21 #[.slice A0 l0.length c0] w fun e w' => ∃ v0_ : Value, e = .returned (.tuple #[v0_, .bool r2]) ∧ Kd.R k40 40 w' w.heap.size (fun _ => True) v0_ r1 ∧ Below w.heap.size w w' := by
 have HR0 := Aside0.mk hr0
 have HC0 := Aside0.mk hc0
 clear hr0 hc0
 have HB := Aside0.mk (Below.refl w.heap.size w)
 have H : ((impl_blocksOk.f k l0).bind fun t282 => (if t282 = true then ((impl_spans.f k l0).bind fun t283 => ((impl_set.f k t283).bind fun t286 => ((impl_limited.f t286).bind fun bt289 => (some (bt289.1, bt289.2))))) else (some (([] : List (S40)), false)))) = some (r1, r2) := h
 clear h
 replace H := bd H
 obtain ⟨t282, A2, H⟩ := H
 replace H : (if t282 = true then ((impl_spans.f k l0).bind fun t283 => ((impl_set.f k t283).bind fun t286 => ((impl_limited.f t286).bind fun bt289 => (some (bt289.1, bt289.2))))) else (some (([] : List (S40)), false))) = some (r1, r2) := H
 by_cases c3 : t282 = true
 ·subst c3
  have H1 : ((impl_spans.f k l0).bind fun t283 => ((impl_set.f k t283).bind fun t286 => ((impl_limited.f t286).bind fun bt289 => (some (bt289.1, bt289.2))))) = some (r1, r2) := by rw [if_pos rfl] at H; exact H
  clear H
  have H := H1
  clear H1
  replace H := bd H
  obtain ⟨t283, A4, H⟩ := H
  replace H : ((impl_set.f k t283).bind fun t286 => ((impl_limited.f t286).bind fun bt289 => (some (bt289.1, bt289.2)))) = some (r1, r2) := H
  replace H := bd H
  obtain ⟨t286, A5, H⟩ := H
  replace H : ((impl_limited.f t286).bind fun bt289 => (some (bt289.1, bt289.2))) = some (r1, r2) := H
  replace H := bd H
  obtain ⟨⟨t289, t292⟩, A6, H⟩ := H
  replace H : (some (t289, t292)) = some (r1, r2) := H
  simp only [Option.some.injEq, Prod.mk.injEq] at H
  obtain ⟨rfl, rfl⟩ := H
  go_enter Try.func21, Try.ntmps21
  go_wp2_with (first | (refine gc (some 5) Try.func50 #[.slice A0 l0.length c0] ?_; (with_reducible refine (impl_blocksOk.calls k _ _ l0 true _ ?side1 ?side2 A2.out).mono ?_); (case side1 => exact zz9 HR0); (case side2 => exact HC0.out); rintro e w7 ⟨rfl, hb⟩; refine ⟨_, rfl, ?_⟩; replace HB := Aside0.mk (below_step zz5 hb); clear hb) | (refine gc (some 8) Try.func53 #[.slice A0 l0.length c0] ?_; (with_reducible refine (impl_spans.calls k _ _ l0 t283 _ ?side1 ?side2 A4.out).mono ?_); (case side1 => exact zz21 HR0); (case side2 => exact HC0.out); rintro e w8 ⟨v284, rfl, ho0, hb⟩; refine ⟨_, rfl, ?_⟩; have HO285 := Aside0.mk (Kd.R_lower ho0 (below_size zz5)); replace HB := Aside0.mk (below_step zz5 hb); clear hb ho0; obtain ⟨Ao9, co9, eo9⟩ := Kd.R_slice HO285.out; subst eo9) | (refine gc (some 9) Try.func52 #[.slice Ao9 t283.length co9] ?_; (with_reducible refine (impl_set.calls k _ _ t283 t286 _ ?side1 ?side2 A5.out).mono ?_); (case side1 => exact zz19 HO285); (case side2 => exact zz22 HO285); rintro e w10 ⟨v287, rfl, ho0, hb⟩; refine ⟨_, rfl, ?_⟩; replace HO285 := Aside0.mk (Kd.R_below (zz12 HO285) hb); have HO288 := Aside0.mk (Kd.R_lower ho0 (below_size zz5)); replace HB := Aside0.mk (below_step zz5 hb); clear hb ho0; obtain ⟨Ao11, co11, eo11⟩ := Kd.R_slice HO288.out; subst eo11) | (refine gc (some 10) Try.func64 #[.slice Ao11 t286.length co11] ?_; (with_reducible refine (impl_limited.calls (fun k_ => some k_ = (.slice Ao11 t286.length co11 : Value).ownBlock) (.slice Ao11 t286.length co11) t286 t289 t292 w _ ?side1 ?side2 A6.out).mono ?_); (case side1 => exact zz5); (case side2 => exact Kd.R_tight rfl HO288.out); rintro e w12 ⟨v290, rfl, ho0, hb, hkp⟩; refine ⟨_, rfl, ?_⟩; replace HO285 := Aside0.mk (Kd.R_mono (ok' := fun k_ => True) (Kd.R_keptB ((Kd.R_apart' HO285.out (Kd.R_typed HO288.out) (by decide))) hkp (fun k_ hk_ hs_ => (hk_.2) hs_)) (fun k_ hk_ => trivial)); have HO291 := Aside0.mk (Kd.R_mono (ok' := fun k_ => True) ho0 (fun k_ hk_ => trivial)); replace HB := Aside0.mk hb; clear HO288 hb hkp ho0))
  go_ret2
  exact ⟨_, zz8, zz12 HO291, zz5⟩
 ·replace c3 := Bool.eq_false_iff.mpr c3
  subst c3
  have H1 : (some (([] : List (S40)), false)) = some (r1, r2) := by rw [if_neg (show ¬ (false = true) by decide)] at H; exact H
  clear H
  have H := H1
  clear H1
  simp only [Option.some.injEq, Prod.mk.injEq] at H
  obtain ⟨rfl, rfl⟩ := H
  go_enter Try.func21, Try.ntmps21
  go_wp2_with (first | (refine gc (some 5) Try.func50 #[.slice A0 l0.length c0] ?_; (with_reducible refine (impl_blocksOk.calls k _ _ l0 false _ ?side1 ?side2 A2.out).mono ?_); (case side1 => exact zz9 HR0); (case side2 => exact HC0.out); rintro e w13 ⟨rfl, hb⟩; refine ⟨_, rfl, ?_⟩; replace HB := Aside0.mk (below_step zz5 hb); clear hb))
  go_ret2
  exact ⟨_, zz8, zz11, zz5⟩

/-! ### spec_l2First: function 90 -/
def spec_l2First.l0 : Nat → Int → Int → Int → Option (Int × Int)
 | 0, _, _, _ => none
 | k + 1, x0, x1, x5 => (spec_l1Size.f k x5).bind fun t294 => (if t294 = 0 then (none) else (if (Int.tmod x0 t294) = 0 then ((spec_l1Size.f k x5).bind fun t295 => (if (wrap64 ((wrap64 (x0 + t295)) - 1)) > x1 then (spec_l2First.l0 k x0 x1 (wrap64 (x5 + 1))) else (some (x0, x5)))) else (spec_l2First.l0 k x0 x1 (wrap64 (x5 + 1)))))
def spec_l2First.f (k : Nat) (a0 : Int) (a1 : Int) : Option (Int × Int) := spec_l2First.l0 k a0 a1 0
theorem spec_l2First.mono_l : ∀ k, (∀ y0 y1 y2, LeO (spec_l2First.l0 k y0 y1 y2) (spec_l2First.l0 (k + 1) y0 y1 y2))
 | 0 => fun _ _ _ r h => by simp [spec_l2First.l0] at h
 | k + 1 => by
  have ih0 := spec_l2First.mono_l k
  ·intro y0 y1 y2
   unfold spec_l2First.l0
   repeat' first
   | (with_reducible exact ih0 _ _ _)
   | (with_reducible exact spec_l1Size.mono _ _)
   | (with_reducible exact LeO.refl _)
   | (with_reducible exact LeO.none _)
   | (with_reducible refine LeO.ite ?_ ?_)
   | (with_reducible refine LeO.bind ?_ (fun _ => ?_))
   | exact ih0 _ _ _
   | exact spec_l1Size.mono _ _
   | exact LeO.none _
   | refine LeO.ite ?_ ?_
   | refine LeO.bind ?_ (fun _ => ?_)
theorem spec_l2First.mono : ∀ a0 a1 k, LeO (spec_l2First.f k a0 a1) (spec_l2First.f (k + 1) a0 a1) := by
 intro a0 a1 k
 have ih0 := spec_l2First.mono_l k
 unfold spec_l2First.f
 repeat' first
   | (with_reducible exact ih0 _ _ _)
   | (with_reducible exact spec_l1Size.mono _ _)
   | (with_reducible exact LeO.refl _)
   | (with_reducible exact LeO.none _)
   | (with_reducible refine LeO.ite ?_ ?_)
   | (with_reducible refine LeO.bind ?_ (fun _ => ?_))
   | exact ih0 _ _ _
   | exact spec_l1Size.mono _ _
   | exact LeO.none _
   | refine LeO.ite ?_ ?_
   | refine LeO.bind ?_ (fun _ => ?_)
set_option maxHeartbeats 8000000 in
set_option maxRecDepth 100000 in
theorem spec_l2First.calls (k : Nat) (a0 : Int) (a1 : Int) (r1 : Int) (r2 : Int) (w : World) (h : spec_l2First.f k a0 a1 = some (r1, r2)) :
  Calls Try.prog 90 #[.int .i64 a0, .int .i64 a1] w fun e w' => e = .returned (.agg #[.int .i64 r1, .int .i64 r2]) ∧ Below w.heap.size w w' := by
 have hu40 := Try.underlying40
 have HB := Aside0.mk (Below.refl w.heap.size w)
 have H : (spec_l2First.l0 k a0 a1 0) = some (r1, r2) := h
 clear h
 have H' := Aside0.mk H
 clear H
 go_enter Try.func90, Try.ntmps90
 go_wp2_with (first | (refine be 4 #[.int .i64 0, .int .i64 0] 40 ?_; intro gb293 hg w3 hbox hb; have BK293 := Aside0.mk hbox; have GW293 := Aside0.mk (zz4 : w.heap.size ≤ gb293); have GE293 := Aside0.mk (zz4 : w.heap.size ≤ gb293); replace HB := Aside0.mk (below_step zz5 hb); clear hb hbox hg))
 go_loopg [5] k (fun kq v5 w' => ∃ (x5_1 : Int), v5 = .int .i64 x5_1 ∧ Aside0 (spec_l2First.l0 kq a0 a1 x5_1 = some (r1, r2)) ∧ Aside0 (kq ≤ k) ∧ Aside0 (w'.heap[gb293]? = some (.cells #[.int .i64 0, .int .i64 0] 40 (0, 0))) ∧ Aside0 (Below w.heap.size w w'))
 case atStart => exact ⟨(0), zz1, H', ⟨Nat.le_refl _⟩, ⟨zz7 BK293⟩, ⟨zz6 GE293⟩⟩
 case round =>
  clear H'
  try clear p2
  obtain ⟨x5_1, rfl, HA, HK1, BK293, HB⟩ := hrel
  cases gk with
  | zero => exact absurd HA.out (by simp [spec_l2First.l0])
  | succ k1 =>
   have H := HA.out
   clear HA
   simp only [spec_l2First.l0] at H
   replace H := bd H
   obtain ⟨t294, A4, H⟩ := H
   replace H : (if t294 = 0 then (none) else (if (Int.tmod a0 t294) = 0 then ((spec_l1Size.f k1 x5_1).bind fun t295 => (if (wrap64 ((wrap64 (a0 + t295)) - 1)) > a1 then (spec_l2First.l0 k1 a0 a1 (wrap64 (x5_1 + 1))) else (some (a0, x5_1)))) else (spec_l2First.l0 k1 a0 a1 (wrap64 (x5_1 + 1))))) = some (r1, r2) := H
   replace H := gn H
   obtain ⟨c5, H⟩ := H
   have c5b0 : (t294 == 0) = false := beq_eq_false_iff_ne.mpr c5
   have c5b1 : (t294 != 0) = true := bne_iff_ne.mpr c5
   by_cases c6 : (Int.tmod a0 t294) = 0
   ·rw [if_pos c6] at H
    have c6b0 : ((Int.tmod a0 t294) == 0) = true := beq_iff_eq.mpr c6
    have c6b1 : ((Int.tmod a0 t294) != 0) = false := bne_eq_false_iff_eq.mpr c6
    clear c6
    replace H := bd H
    obtain ⟨t295, A7, H⟩ := H
    replace H : (if (wrap64 ((wrap64 (a0 + t295)) - 1)) > a1 then (spec_l2First.l0 k1 a0 a1 (wrap64 (x5_1 + 1))) else (some (a0, x5_1))) = some (r1, r2) := H
    replace H := ic H
    rcases H with ⟨c8b0, H⟩ | ⟨c8b0, H⟩
    ·have H' := Aside0.mk H
     clear H
     go_wp2_with (first | (refine gc (some 8) Try.func73 #[.int .i64 x5_1] ?_; (with_reducible refine (spec_l1Size.calls k1 x5_1 t294 _ A4.out).mono ?_); rintro e w' ⟨rfl, ⟨nd, rfl⟩⟩; refine ⟨_, rfl, ?_⟩) | (go_at_call 73; (with_reducible refine (spec_l1Size.calls k1 x5_1 t295 _ A7.out).mono ?_); rintro e w' ⟨rfl, ⟨nd, rfl⟩⟩))
     go_roundg k1
     case measure => have := HK1.out; omega
     case rel => exact ⟨(wrap64 (x5_1 + 1)), zz1, H', ⟨zz3 HK1⟩, ⟨zz7 BK293⟩, ⟨zz6 GE293⟩⟩
    ·simp only [Option.some.injEq, Prod.mk.injEq] at H
     obtain ⟨rfl, rfl⟩ := H
     go_wp2_with (first | (refine gc (some 8) Try.func73 #[.int .i64 x5_1] ?_; (with_reducible refine (spec_l1Size.calls k1 x5_1 t294 _ A4.out).mono ?_); rintro e w' ⟨rfl, ⟨nd, rfl⟩⟩; refine ⟨_, rfl, ?_⟩; (try (rw [drewN_self wr]; generalize hq_ : World.drewN wr _ = wr; have n0_ : Aside0 (wr.heap[gb293]? = some (.cells #[.int .i64 0, .int .i64 0] 40 (0, 0))) := ⟨zz41 BK293⟩; have n1_ : Aside0 (Below w.heap.size w wr) := ⟨zz42 GE293⟩; clear BK293 HB hq_; have BK293 := n0_; have HB := n1_; clear n0_ n1_))) | (go_at_call 73; (with_reducible refine (spec_l1Size.calls k1 x5_1 t295 _ A7.out).mono ?_); rintro e w' ⟨rfl, ⟨nd, rfl⟩⟩; (try (rw [drewN_self wr]; generalize hq_ : World.drewN wr _ = wr; have n0_ : Aside0 (wr.heap[gb293]? = some (.cells #[.int .i64 0, .int .i64 0] 40 (0, 0))) := ⟨zz41 BK293⟩; have n1_ : Aside0 (Below w.heap.size w wr) := ⟨zz42 GE293⟩; clear BK293 HB hq_; have BK293 := n0_; have HB := n1_; clear n0_ n1_)); have hcz9_0 : wr.cell? ⟨gb293, 0, none⟩ = some (.int .i64 0) := (blk_cell BK293.out 0).trans rfl; have hcz9_1 : wr.cell? ⟨gb293, 1, none⟩ = some (.int .i64 0) := (blk_cell BK293.out 1).trans rfl; have hfz9_0 := blk_frozen BK293.out 0; have hfz9_1 := blk_frozen BK293.out 1))
     refine bodyPost_ret (results_cell_row rfl _ _ gb293 40 #[.int .i64 a0, .int .i64 x5_1] (0, 0) _ rfl (by (with_reducible repeat (first | refine blk_drewN ?_ _ | refine blk_drew ?_ | refine blk_alloc ?_ _)); refine blk_put (cs := #[.int .i64 a0, .int .i64 0]) ?_ 1 _ rfl; (with_reducible repeat (first | refine blk_drewN ?_ _ | refine blk_drew ?_ | refine blk_alloc ?_ _)); refine blk_put (cs := #[.int .i64 0, .int .i64 0]) ?_ 0 _ rfl; (with_reducible repeat (first | refine blk_drewN ?_ _ | refine blk_drew ?_ | refine blk_alloc ?_ _)); exact BK293.out) Try.underlying40 rfl (by kernel_rfl)) rfl ?_
     exact ⟨zz8, zz6 GE293⟩
   ·rw [if_neg c6] at H
    have c6b0 : ((Int.tmod a0 t294) == 0) = false := beq_eq_false_iff_ne.mpr c6
    have c6b1 : ((Int.tmod a0 t294) != 0) = true := bne_iff_ne.mpr c6
    have H' := Aside0.mk H
    clear H
    go_wp2_with (first | (refine gc (some 8) Try.func73 #[.int .i64 x5_1] ?_; (with_reducible refine (spec_l1Size.calls k1 x5_1 t294 _ A4.out).mono ?_); rintro e w' ⟨rfl, ⟨nd, rfl⟩⟩; refine ⟨_, rfl, ?_⟩))
    go_roundg k1
    case measure => have := HK1.out; omega
    case rel => exact ⟨(wrap64 (x5_1 + 1)), zz1, H', ⟨zz3 HK1⟩, ⟨zz7 BK293⟩, ⟨zz6 GE293⟩⟩

/-! ### spec_l2Cover: function 49 -/
mutual
def spec_l2Cover.l0 : Nat → List (S72) → List (S40) → Int → Option ((List (S40)))
 | 0, _, _, _ => none
 | k + 1, x0, x3, x4 => if x4 < (x0.length : Int) then (if 0 ≤ x4 then (spec_l2Cover.l1 k x0 x3 x4 ((rd_T72 x0 x4).f0)) else (none)) else (some x3)
def spec_l2Cover.l1 : Nat → List (S72) → List (S40) → Int → Int → Option ((List (S40)))
 | 0, _, _, _, _ => none
 | k + 1, x0, x3, x4, x5 => if 0 ≤ x4 then (if x4 < (x0.length : Int) then (if x5 ≤ ((rd_T72 x0 x4).f1) then ((spec_l2First.f k x5 ((rd_T72 x0 x4).f1)).bind fun bt302 => (if x3.length < 8796093022208 then ((spec_l1Size.f k bt302.2).bind fun t308 => (spec_l2Cover.l1 k x0 (x3 ++ [(⟨bt302.1, bt302.2⟩ : S40)]) x4 (wrap64 (x5 + t308)))) else (none))) else (spec_l2Cover.l0 k x0 x3 (wrap64 (x4 + 1)))) else (none)) else (none)
end
def spec_l2Cover.f (k : Nat) (l0 : List (S72)) : Option ((List (S40))) := spec_l2Cover.l0 k l0 (([] : List (S40))) 0
theorem spec_l2Cover.mono_l : ∀ k, (∀ y0 y1 y2, LeO (spec_l2Cover.l0 k y0 y1 y2) (spec_l2Cover.l0 (k + 1) y0 y1 y2)) ∧ (∀ y0 y1 y2 y3, LeO (spec_l2Cover.l1 k y0 y1 y2 y3) (spec_l2Cover.l1 (k + 1) y0 y1 y2 y3))
 | 0 => ⟨fun _ _ _ r h => by simp [spec_l2Cover.l0] at h, fun _ _ _ _ r h => by simp [spec_l2Cover.l1] at h⟩
 | k + 1 => by
  obtain ⟨ih0, ih1⟩ := spec_l2Cover.mono_l k
  refine ⟨?_, ?_⟩
  ·intro y0 y1 y2
   unfold spec_l2Cover.l0
   repeat' first
   | (with_reducible exact ih0 _ _ _)
   | (with_reducible exact ih1 _ _ _ _)
   | (with_reducible exact spec_l1Size.mono _ _)
   | (with_reducible exact spec_l2First.mono _ _ _)
   | (with_reducible exact LeO.refl _)
   | (with_reducible exact LeO.none _)
   | (with_reducible refine LeO.ite ?_ ?_)
   | (with_reducible refine LeO.bind ?_ (fun _ => ?_))
   | exact ih0 _ _ _
   | exact ih1 _ _ _ _
   | exact spec_l1Size.mono _ _
   | exact spec_l2First.mono _ _ _
   | exact LeO.none _
   | refine LeO.ite ?_ ?_
   | refine LeO.bind ?_ (fun _ => ?_)
  ·intro y0 y1 y2 y3
   unfold spec_l2Cover.l1
   repeat' first
   | (with_reducible exact ih0 _ _ _)
   | (with_reducible exact ih1 _ _ _ _)
   | (with_reducible exact spec_l1Size.mono _ _)
   | (with_reducible exact spec_l2First.mono _ _ _)
   | (with_reducible exact LeO.refl _)
   | (with_reducible exact LeO.none _)
   | (with_reducible refine LeO.ite ?_ ?_)
   | (with_reducible refine LeO.bind ?_ (fun _ => ?_))
   | exact ih0 _ _ _
   | exact ih1 _ _ _ _
   | exact spec_l1Size.mono _ _
   | exact spec_l2First.mono _ _ _
   | exact LeO.none _
   | refine LeO.ite ?_ ?_
   | refine LeO.bind ?_ (fun _ => ?_)
theorem spec_l2Cover.mono : ∀ a0 k, LeO (spec_l2Cover.f k a0) (spec_l2Cover.f (k + 1) a0) := by
 intro a0 k
 obtain ⟨ih0, ih1⟩ := spec_l2Cover.mono_l k
 unfold spec_l2Cover.f
 repeat' first
   | (with_reducible exact ih0 _ _ _)
   | (with_reducible exact ih1 _ _ _ _)
   | (with_reducible exact spec_l1Size.mono _ _)
   | (with_reducible exact spec_l2First.mono _ _ _)
   | (with_reducible exact LeO.refl _)
   | (with_reducible exact LeO.none _)
   | (with_reducible refine LeO.ite ?_ ?_)
   | (with_reducible refine LeO.bind ?_ (fun _ => ?_))
   | exact ih0 _ _ _
   | exact ih1 _ _ _ _
   | exact spec_l1Size.mono _ _
   | exact spec_l2First.mono _ _ _
   | exact LeO.none _
   | refine LeO.ite ?_ ?_
   | refine LeO.bind ?_ (fun _ => ?_)
set_option maxHeartbeats 8000000 in
set_option maxRecDepth 100000 in
theorem spec_l2Cover.calls (k : Nat) (A0 : Option Addr) (c0 : Nat) (l0 : List (S72)) (r : List (S40)) (w : World) (hr0 : Kd.C k72 w A0 l0.length l0) (hc0 : l0.length ≤ c0) (h : spec_l2Cover.f k l0 = some r) :
  Calls Try.prog 49 #[.slice A0 l0.length c0] w fun e w' => ∃ v0_ : Value, e = .returned (v0_) ∧ Kd.R k40 40 w' w.heap.size (fun _ => True) v0_ r ∧ Below w.heap.size w w' := by
 have hu40 := Try.underlying40
 have HR0 := Aside0.mk hr0
 have HC0 := Aside0.mk hc0
 clear hr0 hc0
 have HB := Aside0.mk (Below.refl w.heap.size w)
 have H : (spec_l2Cover.l0 k l0 (([] : List (S40))) 0) = some r := h
 clear h
 obtain ⟨y296, hy296⟩ : ∃ y_ : List (S40), y_ = (([] : List (S40))) := ⟨_, rfl⟩
 replace H : (spec_l2Cover.l0 k l0 y296 0) = some r := by first | (rw [hy296]; with_reducible exact H) | (have H2_ := (Option.bind_some _ _).symm.trans H; rw [hy296]; with_reducible exact H2_) | (have H2_ := (Option.bind_some _ _).symm.trans H; with_reducible exact H2_) | with_reducible exact H | (rw [hy296]; exact H) | exact H
 have Ny296 := Aside0.mk hy296
 clear hy296
 have H' := Aside0.mk H
 clear H
 go_enter Try.func49, Try.ntmps49
 go_wp2_with (first | (refine gt 7 ?_; refine rl k40 40 7 ([] : List (S40)) [] ?hp ?_; (case hp => exact zz33); intro v297 w2 ho3 hb hg_ hnew_; clear hg_ hnew_; (first | rw [← Ny296.out] at ho3 | (simp only [Int.reduceToNat] at ho3; rw [← Ny296.out] at ho3)); have HO298 := Aside0.mk (Kd.R_lower ho3 (below_size zz5)); replace HB := Aside0.mk (below_step zz5 hb); clear hb ho3))
 go_loopg [3, 4] k (fun kq v3 v4 w' => ∃ (x3_1 : List (S40)) (x4_1 : Int), v4 = .int .i64 x4_1 ∧ Aside0 (spec_l2Cover.l0 kq l0 x3_1 x4_1 = some r) ∧ Aside0 (kq ≤ k) ∧ Aside0 (Kd.R k40 40 w' w.heap.size (fun _ => True) v3 x3_1) ∧ Aside0 (Below w.heap.size w w'))
 case atStart => exact ⟨(y296), (0), zz1, H', ⟨Nat.le_refl _⟩, ⟨zz12 HO298⟩, ⟨zz5⟩⟩
 case round =>
  clear H'
  try clear p2
  obtain ⟨x3_1, x4_1, rfl, HA, HK1, HO_3, HB⟩ := hrel
  cases gk with
  | zero => exact absurd HA.out (by simp [spec_l2Cover.l0])
  | succ k1 =>
   have H := HA.out
   clear HA
   simp only [spec_l2Cover.l0] at H
   replace H := ic H
   rcases H with ⟨c4b0, H⟩ | ⟨c4b0, H⟩
   ·replace H := gd H
    obtain ⟨c5b0, H⟩ := H
    have H' := Aside0.mk H
    clear H
    obtain ⟨⟨ad299, e299, hx299_0, hx299_1⟩, p299, q299⟩ := wi (at_T72 HR0.out x4_1)
    cases e299
    replace hx299_0 := (HB.out.cell (World.block_lt_of_cell? w _ hx299_0)).trans hx299_0
    replace hx299_1 := (HB.out.cell (World.block_lt_of_cell? w _ hx299_1)).trans hx299_1
    go_wp2
    go_loopg [3, 5] k1 (fun kq v3 v5 w' => ∃ (x3_2 : List (S40)) (x5_2 : Int), v5 = .int .i64 x5_2 ∧ Aside0 (spec_l2Cover.l1 kq l0 x3_2 x4_1 x5_2 = some r) ∧ Aside0 (kq ≤ k1) ∧ Aside0 (Kd.R k40 40 w' w.heap.size (fun _ => True) v3 x3_2) ∧ Aside0 (Below w.heap.size w w'))
    case atStart => exact ⟨(x3_1), ((rd_T72 l0 x4_1).f0), zz1, H', ⟨Nat.le_refl _⟩, ⟨zz12 HO_3⟩, ⟨zz5⟩⟩
    case round =>
     clear H'
     try clear p2
     try clear q2
     try clear hx2
     try clear c4
     try clear c4b0
     try clear c5
     try clear c5b0
     try clear hx299_0
     try clear hx299_1
     try clear p2
     try clear p299
     try clear q299
     obtain ⟨x3_2, x5_2, rfl, HA, HK2, HO_3, HB⟩ := hrel
     cases gk with
     | zero => exact absurd HA.out (by simp [spec_l2Cover.l1])
     | succ k2 =>
      have H := HA.out
      clear HA
      simp only [spec_l2Cover.l1] at H
      replace H := gd H
      obtain ⟨c6b0, H⟩ := H
      replace H := gd H
      obtain ⟨c7b0, H⟩ := H
      replace H := ic H
      rcases H with ⟨c8b0, H⟩ | ⟨c8b0, H⟩
      ·replace H := Option.bind_eq_some_iff.mp H
       obtain ⟨⟨t302, t303⟩, A90, H⟩ := H
       replace H : (if x3_2.length < 8796093022208 then ((spec_l1Size.f k2 t303).bind fun t308 => (spec_l2Cover.l1 k2 l0 (x3_2 ++ [(⟨t302, t303⟩ : S40)]) x4_1 (wrap64 (x5_2 + t308)))) else (none)) = some r := H
       have A9 := Aside0.mk A90
       clear A90
       replace H := gp H
       obtain ⟨c10, H⟩ := H
       have LMc10 := Aside0.mk c10
       clear c10
       obtain ⟨y305, hy305⟩ : ∃ y_ : List (S40), y_ = (x3_2 ++ [(⟨t302, t303⟩ : S40)]) := ⟨_, rfl⟩
       replace H : ((spec_l1Size.f k2 t303).bind fun t308 => (spec_l2Cover.l1 k2 l0 y305 x4_1 (wrap64 (x5_2 + t308)))) = some r := by first | (rw [hy305]; with_reducible exact H) | (have H2_ := (Option.bind_some _ _).symm.trans H; rw [hy305]; with_reducible exact H2_) | (have H2_ := (Option.bind_some _ _).symm.trans H; with_reducible exact H2_) | with_reducible exact H | (rw [hy305]; exact H) | exact H
       have Ny305 := Aside0.mk hy305
       clear hy305
       replace H := bd H
       obtain ⟨t308, A11, H⟩ := H
       replace H : (spec_l2Cover.l1 k2 l0 y305 x4_1 (wrap64 (x5_2 + t308))) = some r := H
       have H' := Aside0.mk H
       clear H
       obtain ⟨⟨ad300, e300, hx300_0, hx300_1⟩, p300, q300⟩ := wi (at_T72 HR0.out x4_1)
       obtain rfl : ad299 = ad300 := (by injection e300)
       replace hx300_0 := (HB.out.cell (World.block_lt_of_cell? w _ hx300_0)).trans hx300_0
       replace hx300_1 := (HB.out.cell (World.block_lt_of_cell? w _ hx300_1)).trans hx300_1
       obtain ⟨⟨ad301, e301, hx301_0, hx301_1⟩, p301, q301⟩ := wi (at_T72 HR0.out x4_1)
       obtain rfl : ad299 = ad301 := (by injection e301)
       replace hx301_0 := (HB.out.cell (World.block_lt_of_cell? w _ hx301_0)).trans hx301_0
       replace hx301_1 := (HB.out.cell (World.block_lt_of_cell? w _ hx301_1)).trans hx301_1
       go_wp2_with (first | (refine gc (some 32) Try.func90 #[.int .i64 x5_2, .int .i64 ((rd_T72 l0 x4_1).f1)] ?_; (with_reducible refine (spec_l2First.calls k2 x5_2 ((rd_T72 l0 x4_1).f1) t302 t303 _ A9.out).mono ?_); rintro e w12 ⟨rfl, hb⟩; refine ⟨_, rfl, ?_⟩; replace HO_3 := Aside0.mk (Kd.R_below (zz12 HO_3) hb); replace HB := Aside0.mk (below_step zz5 hb); clear hb) | (refine be 6 #[.int .i64 0, .int .i64 0] 40 ?_; intro gb304 hg w13 hbox hb; replace HO_3 := Aside0.mk (Kd.R_below (Kd.R_elderB (zz12 HO_3) gb304 (Nat.le_of_eq hg.symm)) hb); have BK304 := Aside0.mk hbox; have GW304 := Aside0.mk (zz4 : w.heap.size ≤ gb304); have GE304 := Aside0.mk (zz4 : w.heap.size ≤ gb304); replace HB := Aside0.mk (below_step zz5 hb); clear hb hbox hg; have hcz14_0 : w13.cell? ⟨gb304, 0, none⟩ = some (.int .i64 0) := (blk_cell BK304.out 0).trans rfl; have hcz14_1 : w13.cell? ⟨gb304, 1, none⟩ = some (.int .i64 0) := (blk_cell BK304.out 1).trans rfl; have hfz14_0 := blk_frozen BK304.out 0; have hfz14_1 := blk_frozen BK304.out 1) | ((with_reducible refine gate_builtin (b := .append) (xs := #[.tmp 33, .tmp 35]) rfl ?_); at_builtin; refine Kd.R_append k40 (w0 := w) w.heap.size rfl (.tmp 33) (.tmp 35) 25 40 (.agg #[(.int .i64 0), (.int .i64 0)]) 16 rfl Try.underlying25 info40 rfl (by decide) (by omega) u3 x3_2 (⟨t302, t303⟩ : S40) [.int .i64 t302, .int .i64 t303] (fun k_ => k_ ≠ gb304) (fun _ => False) rfl (by first | (go_simp; done) | (go_simp; rfl)) ?aP (fun _ hk => hk.elim) ?aF ?aO ?aB ?aS ?aL ?_; (case aP => exact k40_mkM _ _ _ (⟨t302, t303⟩ : S40)); (case aB => exact zz6 GE304); (case aF => exact (fun k_ hk => Kd.freshB (g := gb304) (o := .cells #[.int .i64 t302, .int .i64 t303] 40 (0, 0)) (by (with_reducible repeat (first | refine blk_drewN ?_ _ | refine blk_drew ?_ | refine blk_alloc ?_ _)); refine blk_put (cs := #[.int .i64 t302, .int .i64 0]) ?_ 1 _ rfl; (with_reducible repeat (first | refine blk_drewN ?_ _ | refine blk_drew ?_ | refine blk_alloc ?_ _)); refine blk_put (cs := #[.int .i64 0, .int .i64 0]) ?_ 0 _ rfl; (with_reducible repeat (first | refine blk_drewN ?_ _ | refine blk_drew ?_ | refine blk_alloc ?_ _)); exact BK304.out) k_ hk)); (case aO => (with_reducible repeat (first | apply Kd.R_alloc | apply Kd.R_drewN | apply Kd.R_drew)); exact Kd.R_mono (Kd.R_far (p := ⟨gb304, 1, none⟩) (Kd.R_far (p := ⟨gb304, 0, none⟩) (Kd.R_mono HO_3.out (fun k_ hk => (⟨hk, hk.2⟩ : _ ∧ k_ ≠ gb304))) (fun _ hk => hk.2) (.int .i64 t302)) (fun _ hk => hk.2) (.int .i64 t303)) (fun _ hk => hk.1.2)); (case aS => exact zz14 GE304); (case aL => exact zz3 LMc10); intro v306 w15 ho hb hg hat; rw [← Ny305.out] at ho; replace BK304 := Aside0.mk (blk_grown (g := gb304) (o := .cells #[.int .i64 t302, .int .i64 t303] 40 (0, 0)) (by (with_reducible repeat (first | refine blk_drewN ?_ _ | refine blk_drew ?_ | refine blk_alloc ?_ _)); refine blk_put (cs := #[.int .i64 t302, .int .i64 0]) ?_ 1 _ rfl; (with_reducible repeat (first | refine blk_drewN ?_ _ | refine blk_drew ?_ | refine blk_alloc ?_ _)); refine blk_put (cs := #[.int .i64 0, .int .i64 0]) ?_ 0 _ rfl; (with_reducible repeat (first | refine blk_drewN ?_ _ | refine blk_drew ?_ | refine blk_alloc ?_ _)); exact BK304.out) hg (Kd.R_away HO_3.out (fun _ hk => hk.2))); replace HB := Aside0.mk hb; have HO307 := Aside0.mk ho; clear HO_3 ho hb hg hat; have hcz16_0 : w15.cell? ⟨gb304, 0, none⟩ = some (.int .i64 t302) := (blk_cell BK304.out 0).trans rfl; have hcz16_1 : w15.cell? ⟨gb304, 1, none⟩ = some (.int .i64 t303) := (blk_cell BK304.out 1).trans rfl; have hfz16_0 := blk_frozen BK304.out 0; have hfz16_1 := blk_frozen BK304.out 1) | (refine gc (some 40) Try.func73 #[.int .i64 t303] ?_; (with_reducible refine (spec_l1Size.calls k2 t303 t308 _ A11.out).mono ?_); rintro e w' ⟨rfl, ⟨nd, rfl⟩⟩; refine ⟨_, rfl, ?_⟩))
       go_roundg k2
       case measure => have := HK1.out; have := HK2.out; omega
       case rel => exact ⟨(y305), (wrap64 (x5_2 + t308)), zz1, H', ⟨by have := HK1.out; have := HK2.out; omega⟩, ⟨zz18 HO307⟩, ⟨zz6 GE304⟩⟩
      ·have H' := Aside0.mk H
       clear H
       obtain ⟨⟨ad300, e300, hx300_0, hx300_1⟩, p300, q300⟩ := wi (at_T72 HR0.out x4_1)
       obtain rfl : ad299 = ad300 := (by injection e300)
       replace hx300_0 := (HB.out.cell (World.block_lt_of_cell? w _ hx300_0)).trans hx300_0
       replace hx300_1 := (HB.out.cell (World.block_lt_of_cell? w _ hx300_1)).trans hx300_1
       go_wp2
       go_roundg k2
       case measure => have := HK1.out; have := HK2.out; omega
       case rel => exact ⟨(x3_2), (wrap64 (x4_1 + 1)), zz1, H', ⟨by have := HK1.out; have := HK2.out; omega⟩, ⟨zz12 HO_3⟩, ⟨zz5⟩⟩
   ·obtain rfl := Option.some.inj H
    go_wp2
    go_ret
    exact ⟨_, zz8, zz12 HO_3, zz5⟩

/-! ### spec_l1In: function 58 -/
def spec_l1In.f (a0 : Int) (a1 : Int) (a2 : Int) : Option (Bool) := if a0 ≥ a1 then (some (decide (a0 ≤ a2))) else (some false)
set_option maxHeartbeats 8000000 in
set_option maxRecDepth 100000 in
theorem spec_l1In.calls (a0 : Int) (a1 : Int) (a2 : Int) (r : Bool) (w : World) (h : spec_l1In.f a0 a1 a2 = some r) :
  Calls Try.prog 58 #[.int .i64 a0, .int .i64 a1, .int .i64 a2] w fun e w' => e = .returned (.bool r) ∧ Drawn0 w w' := by
 have H : (if a0 ≥ a1 then (some (decide (a0 ≤ a2))) else (some false)) = some r := h
 clear h
 replace H := ic H
 rcases H with ⟨c4b0, H⟩ | ⟨c4b0, H⟩
 ·obtain rfl := Option.some.inj H
  go_enter Try.func58, Try.ntmps58
  go_wp2
  go_ret
  exact ⟨zz1, zz2⟩
 ·obtain rfl := Option.some.inj H
  go_enter Try.func58, Try.ntmps58
  go_wp2
  go_ret
  exact ⟨zz1, zz2⟩

/-! ### spec_l1Addr: function 48 -/
def spec_l1Addr.f (a0 : Int) : Option (Bool) := (spec_l1In.f a0 0 4294967295).bind fun t309 => (some t309)
set_option maxHeartbeats 8000000 in
set_option maxRecDepth 100000 in
theorem spec_l1Addr.calls (a0 : Int) (r : Bool) (w : World) (h : spec_l1Addr.f a0 = some r) :
  Calls Try.prog 48 #[.int .i64 a0] w fun e w' => e = .returned (.bool r) ∧ Drawn0 w w' := by
 have H : ((spec_l1In.f a0 0 4294967295).bind fun t309 => (some t309)) = some r := h
 clear h
 replace H := bd H
 obtain ⟨t309, A2, H⟩ := H
 replace H : (some t309) = some r := H
 obtain rfl := Option.some.inj H
 go_enter Try.func48, Try.ntmps48
 go_wp2_with (first | (refine gc (some 4) Try.func58 #[.int .i64 a0, .int .i64 0, .int .i64 4294967295] ?_; (with_reducible refine (spec_l1In.calls a0 0 4294967295 t309 _ A2.out).mono ?_); rintro e w' ⟨rfl, ⟨nd, rfl⟩⟩; refine ⟨_, rfl, ?_⟩))
 go_ret
 exact ⟨zz1, zz2⟩

end Go.Proofs.Ythkjkmgbdahggaa.PO
