/- A text printed by this session's wip/myprint.py over the kit's print: contracts of functions of the given program, each at what its Lean function says. -/
import Derived.Test.YthkjkmgbdahggaaGreatPYx0
import Derived.Test.YthkjkmgbdahggaaGreatPYx2
import Derived.Test.YthkjkmgbdahggaaGreatPYx5
namespace Go.Proofs.YthkjkmgbdahggaaGreat.PY
open Go.RowKit Go.Proofs.YthkjkmgbdahggaaGreatW.PrintWords Go.Proofs.YthkjkmgbdahggaaGreatW.PrintLast Go.Proofs.YthkjkmgbdahggaaGreatW.PrintMore Go.Proofs.YthkjkmgbdahggaaGreat.Sq
attribute [local go_sem] max2_int min2_int max_two min_two max_three min_three max_four min_four   -- for this text's walks alone
set_option linter.unusedVariables false
set_option linter.unusedSimpArgs false
def spec_l1Over.f (k : Nat) (a0 : Int) (a1 : Int) : Option (Int × Int) := (spec_l1Size.f k a1).bind fun t187 => (if t187 = 0 then (none) else ((spec_l1Size.f k a1).bind fun t188 => (some (wrap64 ((wrap64 (Int.tdiv a0 t187)) * t188), a1))))
def spec_l1Over.T1 : Bool × List (List Nat × List Nat) := (true, [([], []), ([], []), ([1], [1]), ([0, 2], [0, 2]), ([], []), ([4, 2], [4]), ([3, 5], [3, 5]), ([], []), ([6, 7], [6, 7]), ([8, 5, 0, 1, 2, 3, 4, 5, 6, 7, 8], [8])])
def spec_l1Over.B1 : List Nat := [0, 0, 2, 7, 0, 22, 63, 0, 255, 511]
theorem spec_l1Over.tab1 : rtab .any (opsOf Tryz.f72 1) = spec_l1Over.T1 := by kernel_rfl
theorem spec_l1Over.bits1 : waitsOk spec_l1Over.T1.2 spec_l1Over.B1 = true := by kernel_rfl
set_option maxHeartbeats 8000000 in
set_option maxRecDepth 100000 in
theorem spec_l1Over.calls (k : Nat) (a0 : Int) (a1 : Int) (r1 : Int) (r2 : Int) (w : World) (h : spec_l1Over.f k a0 a1 = some (r1, r2)) :
  Calls Tryz.prog 72 #[.int .i64 a0, .int .i64 a1] w fun e w' => e = .returned (.agg #[.int .i64 r1, .int .i64 r2]) ∧ Below w.heap.size w w' := by
 have hu32 := Tryz.underlying32
 have HB := Aside0.mk (Below.refl w.heap.size w)
 have H : ((spec_l1Size.f k a1).bind fun t187 => (if t187 = 0 then (none) else ((spec_l1Size.f k a1).bind fun t188 => (some (wrap64 ((wrap64 (Int.tdiv a0 t187)) * t188), a1))))) = some (r1, r2) := h
 clear h
 replace H := bd H
 obtain ⟨t187, A3, H⟩ := H
 replace H : (if t187 = 0 then (none) else ((spec_l1Size.f k a1).bind fun t188 => (some (wrap64 ((wrap64 (Int.tdiv a0 t187)) * t188), a1)))) = some (r1, r2) := H
 replace H := gn H
 obtain ⟨c4, H⟩ := H
 have c4b0 : (t187 == 0) = false := beq_eq_false_iff_ne.mpr c4
 have c4b1 : (t187 != 0) = true := bne_iff_ne.mpr c4
 replace H := bd H
 obtain ⟨t188, A5, H⟩ := H
 replace H : (some (wrap64 ((wrap64 (Int.tdiv a0 t187)) * t188), a1)) = some (r1, r2) := H
 simp only [Option.some.injEq, Prod.mk.injEq] at H
 obtain ⟨rfl, rfl⟩ := H
 go_enter Tryz.func72, Tryz.ntmps72
 try go_wp2_with (first | (refine be 4 #[.int .i64 0, .int .i64 0] 32 ?_; intro gb186 hg w6 hbox hb; have BK186 := Aside0.mk hbox; have GW186 := Aside0.mk (zz16 : w.heap.size ≤ gb186); have GE186 := Aside0.mk (zz16 : w.heap.size ≤ gb186); replace HB := Aside0.mk (below_step zz3 hb); clear hb hbox hg))
 replace BK186 := Aside0.mk (blk_drew BK186.out)
 replace HB := Aside0.mk (below_drew1 HB.out)
 refine start_ (n := 10) (S := fun w' => True) (ds := []) (bm 10 0) (by kernel_rfl) rfl rfl trivial (fun hHeld => ?_); refine with_tabW spec_l1Over.tab1 spec_l1Over.bits1 (fun HT_ HW_ => ?_)
 generalize w6.drew = w7 at BK186 HB hHeld ⊢
 refine pu 0 5 (bm 10 1) ?_
 refine pu 1 6 (bm 10 3) ?_
 refine pu 4 9 (bm 10 19) ?_
 refine pu 7 12 (bm 10 147) ?_
 refine on 2 (some 7) (bm 10 151) (fun K hK => ?_)
 refine gs Tryz.func50 #[.int .i64 a1] ?_
 with_reducible refine (spec_l1Size.calls k a1 t187 _ A3.out).mono ?_
 rintro e w' ⟨rfl, ⟨nd, rfl⟩⟩
 refine ⟨_, rfl, ?_⟩
 refine hK.out _ _ trivial (fun hHeld => ?_)
 clear hK K
 refine nm 7 ?_
 refine pu 3 8 (bm 10 159) ?_
 refine on 5 (some 10) (bm 10 191) (fun K hK => ?_)
 refine gs Tryz.func50 #[.int .i64 a1] ?_
 with_reducible refine (spec_l1Size.calls k a1 t188 _ A5.out).mono ?_
 rintro e w' ⟨rfl, ⟨nd, rfl⟩⟩
 refine ⟨_, rfl, ?_⟩
 refine hK.out _ _ trivial (fun hHeld => ?_)
 clear hK K
 refine nm 10 ?_
 refine pu 6 11 (bm 10 255) ?_
 refine pu 8 13 (bm 10 511) ?_
 refine on 9 none (bm 10 1023) (fun K hK => ?_)
 have hs8 : w7.cell? ⟨gb186, 0, none⟩ = some (.int .i64 0) := (blk_cell BK186.out 0).trans rfl
 have hfs8 := blk_frozen BK186.out 0
 have hs9 : w7.cell? ⟨gb186, 1, none⟩ = some (.int .i64 0) := (blk_cell BK186.out 1).trans rfl
 have hfs9 := blk_frozen BK186.out 1
 refine skip_ (w1 := ?_) (by rfl) rfl ?_ ?_
 rotate_left
 ·go_simp
  rfl
 refine hK.out _ _ trivial (fun hHeld => ?_)
 clear hK K
 refine done_ (done_of HT_.out (by kernel_rfl)) ?_
 try go_wp2
 refine bodyPost_ret (results_cell_row rfl _ _ gb186 32 #[.int .i64 (wrap64 ((wrap64 (Int.tdiv a0 t187)) * t188)), .int .i64 a1] (0, 0) _ rfl (by (with_reducible repeat (first | refine blk_drewN ?_ _ | refine blk_drew ?_ | refine blk_alloc ?_ _)); refine blk_put (cs := #[.int .i64 (wrap64 ((wrap64 (Int.tdiv a0 t187)) * t188)), .int .i64 0]) ?_ 1 _ rfl; (with_reducible repeat (first | refine blk_drewN ?_ _ | refine blk_drew ?_ | refine blk_alloc ?_ _)); refine blk_put (cs := #[.int .i64 0, .int .i64 0]) ?_ 0 _ rfl; (with_reducible repeat (first | refine blk_drewN ?_ _ | refine blk_drew ?_ | refine blk_alloc ?_ _)); exact BK186.out) Tryz.underlying32 rfl (by kernel_rfl)) rfl ?_
 exact ⟨zz13, zz6 GE186⟩
def spec_l12Block.f (k : Nat) (s0_0 : List Int) (s0_1 : Int) : Option (Int × Int × Int) := (spec_l12Addr.f k s0_0 s0_1).bind fun bt190 => ((spec_l1Rd_one.f k s0_0 bt190.2 (([32, 31, 30, 28, 24, 24, 25, 16, 8, 1, 0, 29] : List Int))).bind fun bt195 => ((spec_l1Over.f k bt190.1 bt195.1).bind fun bt197 => (some (bt197.1, bt197.2, bt195.2))))
set_option maxHeartbeats 8000000 in
set_option maxRecDepth 100000 in
theorem spec_l12Block.calls (k : Nat) (g : Nat) (s0_0 : List Int) (s0_1 : Int) (r1 : Int) (r2 : Int) (r3 : Int) (w0 w : World) (hI : IsS64 w0 w g s0_0 s0_1) (hB : Below w0.heap.size w0 w) (h : spec_l12Block.f k s0_0 s0_1 = some (r1, r2, r3)) :
  Calls Tryz.prog 57 #[.pointer (some ⟨g, 0, none⟩)] w fun e w' => e = .returned (.agg #[.int .i64 r1, .int .i64 r2]) ∧ IsS64 w0 w' g s0_0 r3 ∧ Below w0.heap.size w0 w' ∧ KeepBut w w' g none := by
 have hu32 := Tryz.underlying32
 have HI0 := Aside0.mk hI
 have HK := Aside0.mk (KeepBut.refl w g none)
 have HL := Aside0.mk hB.size
 clear hI
 have HW0 := Aside0.mk hB.size
 have HB := Aside0.mk hB
 clear hB
 have H : ((spec_l12Addr.f k s0_0 s0_1).bind fun bt190 => ((spec_l1Rd_one.f k s0_0 bt190.2 (([32, 31, 30, 28, 24, 24, 25, 16, 8, 1, 0, 29] : List Int))).bind fun bt195 => ((spec_l1Over.f k bt190.1 bt195.1).bind fun bt197 => (some (bt197.1, bt197.2, bt195.2))))) = some (r1, r2, r3) := h
 clear h
 replace H := bd H
 obtain ⟨⟨t190, t191⟩, A2, H⟩ := H
 replace H : ((spec_l1Rd_one.f k s0_0 t191 (([32, 31, 30, 28, 24, 24, 25, 16, 8, 1, 0, 29] : List Int))).bind fun bt195 => ((spec_l1Over.f k t190 bt195.1).bind fun bt197 => (some (bt197.1, bt197.2, bt195.2)))) = some (r1, r2, r3) := H
 obtain ⟨y192, hy192⟩ : ∃ y_ : List Int, y_ = (([32, 31, 30, 28, 24, 24, 25, 16, 8, 1, 0, 29] : List Int)) := ⟨_, rfl⟩
 replace H : ((spec_l1Rd_one.f k s0_0 t191 y192).bind fun bt195 => ((spec_l1Over.f k t190 bt195.1).bind fun bt197 => (some (bt197.1, bt197.2, bt195.2)))) = some (r1, r2, r3) := by first | (rw [hy192]; with_reducible exact H) | (have H2_ := (Option.bind_some _ _).symm.trans H; rw [hy192]; with_reducible exact H2_) | (have H2_ := (Option.bind_some _ _).symm.trans H; with_reducible exact H2_) | with_reducible exact H | (rw [hy192]; exact H) | exact H
 have Ny192 := Aside0.mk hy192
 clear hy192
 replace H := bd H
 obtain ⟨⟨t195, t196⟩, A3, H⟩ := H
 replace H : ((spec_l1Over.f k t190 t195).bind fun bt197 => (some (bt197.1, bt197.2, t196))) = some (r1, r2, r3) := H
 replace H := bd H
 obtain ⟨⟨t197, t198⟩, A4, H⟩ := H
 replace H : (some (t197, t198, t196)) = some (r1, r2, r3) := H
 simp only [Option.some.injEq, Prod.mk.injEq] at H
 obtain ⟨rfl, rfl, rfl⟩ := H
 go_enter Tryz.func57, Tryz.ntmps57
 go_wp2_with (first | (refine be 2 #[.int .i64 0, .int .i64 0] 32 ?_; intro gb189 hg w5 hbox hb; replace HB := Aside0.mk (below_step (zz12 HI0) hb); have BK189 := Aside0.mk hbox; have GW189 := Aside0.mk (zz35 : w.heap.size ≤ gb189); have GE189 := Aside0.mk (Nat.le_trans HW0.out (zz35 : w.heap.size ≤ gb189) : w0.heap.size ≤ gb189); replace HK := Aside0.mk (KeepBut.trans zz11 (KeepBut.of_below hb g none) (.inl rfl)); have NB0_189 := Aside0.mk (by rw [hg]; exact Nat.ne_of_lt (IsS64.lt (show IsS64 w0 _ g s0_0 s0_1 from zz10 HI0)) : g ≠ gb189); have NB189_0 := Aside0.mk (by rw [hg]; exact Nat.ne_of_gt (IsS64.lt (show IsS64 w0 _ g s0_0 s0_1 from zz10 HI0)) : gb189 ≠ g); replace HI0 := Aside0.mk (IsS64.below (zz10 HI0) hb); clear hb hbox hg) | (refine gc (some 4) Tryz.func53 #[.pointer (some ⟨g, 0, none⟩)] ?_; (with_reducible refine (spec_l12Addr.calls k g s0_0 s0_1 t190 t191 w0 _ ?side1 ?side2 A2.out).mono ?_); (case side1 => exact zz36 HI0 NB0_189); (case side2 => exact zz37 HI0 GE189); rintro e w6 ⟨rfl, hi, hb, hk⟩; refine ⟨_, rfl, ?_⟩; replace BK189 := Aside0.mk (KeepBut.blk hk (g' := gb189) (o := .cells #[.int .i64 0, .int .i64 0] 32 (0, 0)) (zz5 BK189) NB189_0.out (by simp)); replace HK := Aside0.mk (KeepBut.trans (zz38 GW189) hk (.inl rfl)); replace HB := Aside0.mk hb; replace HI0 := Aside0.mk hi; clear hb hk hi) | (refine gt 6 ?_; refine rl (Kd.int .i64) 3 6 ([32, 31, 30, 28, 24, 24, 25, 16, 8, 1, 0, 29] : List Int) [.int .i64 32, .int .i64 31, .int .i64 30, .int .i64 28, .int .i64 24, .int .i64 24, .int .i64 25, .int .i64 16, .int .i64 8, .int .i64 1, .int .i64 0, .int .i64 29] ?hp ?_; (case hp => exact (ro (ro (ro (ro (ro (ro (ro (ro (ro (ro (ro (ro (Reps.none _ _)))))))))))))); intro v193 w7 ho8 hb hg_ hnew_; clear hg_ hnew_; (first | rw [← Ny192.out] at ho8 | (simp only [Int.reduceToNat] at ho8; rw [← Ny192.out] at ho8)); have HO194 := Aside0.mk (Kd.R_lower ho8 (keep_size (w := w) (g := g) (row := none) (zz38 GW189))); replace BK189 := Aside0.mk (blk_below (g := gb189) (o := .cells #[.int .i64 0, .int .i64 0] 32 (0, 0)) (zz5 BK189) hb); replace HK := Aside0.mk (KeepBut.trans (zz38 GW189) (KeepBut.of_below hb g none) (.inl rfl)); replace HB := Aside0.mk (below_step (zz37 HI0 GE189) hb); replace HI0 := Aside0.mk (IsS64.below (zz36 HI0 NB0_189) hb); clear hb ho8; obtain ⟨Ao9, co9, eo9⟩ := Kd.R_slice HO194.out; subst eo9) | (refine gc (some 7) Tryz.func15 #[.pointer (some ⟨g, 0, none⟩), .slice Ao9 y192.length co9] ?_; (with_reducible refine (spec_l1Rd_one.calls k g s0_0 t191 _ _ y192 t195 t196 w0 _ ?side1 ?side2 ?side3 ?side4 ?side5 A3.out).mono ?_); (case side1 => exact zz36 HI0 NB0_189); (case side2 => exact zz37 HI0 GE189); (case side3 => exact zz31 HO194); (case side4 => exact zz33 HO194); (case side5 => exact zz34 HI0 HO194); rintro e w10 ⟨rfl, hi, hb, hk⟩; refine ⟨_, rfl, ?_⟩; replace BK189 := Aside0.mk (KeepBut.blk hk (g' := gb189) (o := .cells #[.int .i64 0, .int .i64 0] 32 (0, 0)) (zz5 BK189) NB189_0.out (by simp)); replace HO194 := Aside0.mk (Kd.R_mono (Kd.R_keep (IsS64.apart (show IsS64 w0 _ g s0_0 t191 from zz36 HI0 NB0_189) (zz22 HO194) (by decide)) hk (fun _ h => h.2)) (fun _ h => h.1)); replace HK := Aside0.mk (KeepBut.trans (zz38 GW189) hk (.inl rfl)); replace HB := Aside0.mk hb; replace HI0 := Aside0.mk hi; clear hb hk hi) | (refine gc (some 8) Tryz.func72 #[.int .i64 t190, .int .i64 t195] ?_; (with_reducible refine (spec_l1Over.calls k t190 t195 t197 t198 _ A4.out).mono ?_); rintro e w11 ⟨rfl, hb⟩; refine ⟨_, rfl, ?_⟩; replace HO194 := Aside0.mk (Kd.R_below (zz22 HO194) hb); replace BK189 := Aside0.mk (blk_below (g := gb189) (o := .cells #[.int .i64 0, .int .i64 0] 32 (0, 0)) (zz5 BK189) hb); replace HK := Aside0.mk (KeepBut.trans (zz38 GW189) (KeepBut.of_below hb g none) (.inl rfl)); replace HB := Aside0.mk (below_step (zz37 HI0 GE189) hb); replace HI0 := Aside0.mk (IsS64.below (zz36 HI0 NB0_189) hb); clear hb; have hnb12 := NB189_0.out; have hnc12 := NB0_189.out; have hcz13_0 : w11.cell? ⟨gb189, 0, none⟩ = some (.int .i64 0) := (blk_cell BK189.out 0).trans rfl; have hcz13_1 : w11.cell? ⟨gb189, 1, none⟩ = some (.int .i64 0) := (blk_cell BK189.out 1).trans rfl; have hfz13_0 := blk_frozen BK189.out 0; have hfz13_1 := blk_frozen BK189.out 1))
 refine bodyPost_ret (results_cell_row rfl _ _ gb189 32 #[.int .i64 t197, .int .i64 t198] (0, 0) _ rfl (by (with_reducible repeat (first | refine blk_drewN ?_ _ | refine blk_drew ?_ | refine blk_alloc ?_ _)); refine blk_put (cs := #[.int .i64 t197, .int .i64 0]) ?_ 1 _ rfl; (with_reducible repeat (first | refine blk_drewN ?_ _ | refine blk_drew ?_ | refine blk_alloc ?_ _)); refine blk_put (cs := #[.int .i64 0, .int .i64 0]) ?_ 0 _ rfl; (with_reducible repeat (first | refine blk_drewN ?_ _ | refine blk_drew ?_ | refine blk_alloc ?_ _)); exact BK189.out) Tryz.underlying32 rfl (by kernel_rfl)) rfl ?_
 exact ⟨zz13, zz36 HI0 NB0_189, zz37 HI0 GE189, zz38 GW189⟩
mutual
def spec_l12Ways.l0 : Nat → List (S34) → Int → List Int → Int → Option ((List (S34)) × Int)
 | 0, _, _, _, _ => none
 | k + 1, x3, x4, x1000, x1001 => if x4 > 0 then ((spec_l12Block.f k x1000 x1001).bind fun bt204 => ((spec_l1Rd_pick.f k x1000 bt204.2.2 3).bind fun bt207 => ((spec_WaysPut.f k x3 bt204.1 bt204.2.1 bt207.1).bind fun bt209 => (spec_l12Ways.l0 k bt209.1 (wrap64 (x4 - 1)) x1000 bt207.2)))) else ((spec_l1Rd_pick.f k x1000 x1001 24).bind fun bt213 => (if bt213.1 = 0 then (spec_l12Ways.l1 k x3 0 x1000 bt213.2) else (some (x3, bt213.2))))
def spec_l12Ways.l1 : Nat → List (S34) → Int → List Int → Int → Option ((List (S34)) × Int)
 | 0, _, _, _, _ => none
 | k + 1, x3, x5, x1000, x1001 => if (x3.length : Int) < 40 then ((spec_WaysPut.f k x3 (wrap64 (x5 * 2)) 32 (Int.tmod x5 3)).bind fun bt215 => (spec_l12Ways.l1 k bt215.1 (wrap64 (x5 + 1)) x1000 x1001)) else (some (x3, x1001))
end
def spec_l12Ways.f (k : Nat) (s0_0 : List Int) (s0_1 : Int) : Option ((List (S34)) × Int) := (spec_l1Rd_pick.f k s0_0 s0_1 8).bind fun bt202 => (spec_l12Ways.l0 k (([] : List (S34))) bt202.1 s0_0 bt202.2)
set_option maxHeartbeats 8000000 in
set_option maxRecDepth 100000 in
theorem spec_l12Ways.calls (k : Nat) (g : Nat) (s0_0 : List Int) (s0_1 : Int) (r1 : List (S34)) (r2 : Int) (w0 w : World) (hI : IsS64 w0 w g s0_0 s0_1) (hB : Below w0.heap.size w0 w) (h : spec_l12Ways.f k s0_0 s0_1 = some (r1, r2)) :
  Calls Tryz.prog 38 #[.pointer (some ⟨g, 0, none⟩)] w fun e w' => ∃ v0_ : Value, e = .returned (v0_) ∧ Kd.R k34 34 w' w.heap.size (fun _ => True) v0_ r1 ∧ IsS64 w0 w' g s0_0 r2 ∧ Below w0.heap.size w0 w' ∧ KeepBut w w' g none := by
 have hu34 := Tryz.underlying34
 have hu32 := Tryz.underlying32
 have HI0 := Aside0.mk hI
 have HK := Aside0.mk (KeepBut.refl w g none)
 have HL := Aside0.mk hB.size
 clear hI
 have HW0 := Aside0.mk hB.size
 have HB := Aside0.mk hB
 clear hB
 have H : ((spec_l1Rd_pick.f k s0_0 s0_1 8).bind fun bt202 => (spec_l12Ways.l0 k (([] : List (S34))) bt202.1 s0_0 bt202.2)) = some (r1, r2) := h
 clear h
 obtain ⟨y199, hy199⟩ : ∃ y_ : List (S34), y_ = (([] : List (S34))) := ⟨_, rfl⟩
 replace H : ((spec_l1Rd_pick.f k s0_0 s0_1 8).bind fun bt202 => (spec_l12Ways.l0 k y199 bt202.1 s0_0 bt202.2)) = some (r1, r2) := by first | (rw [hy199]; with_reducible exact H) | (have H2_ := (Option.bind_some _ _).symm.trans H; rw [hy199]; with_reducible exact H2_) | (have H2_ := (Option.bind_some _ _).symm.trans H; with_reducible exact H2_) | with_reducible exact H | (rw [hy199]; exact H) | exact H
 have Ny199 := Aside0.mk hy199
 clear hy199
 replace H := bd H
 obtain ⟨⟨t202, t203⟩, A2, H⟩ := H
 replace H : (spec_l12Ways.l0 k y199 t202 s0_0 t203) = some (r1, r2) := H
 have H' := Aside0.mk H
 clear H
 go_enter Tryz.func38, Tryz.ntmps38
 go_wp2_with (first | (refine gt 6 ?_; refine rl k34 34 6 ([] : List (S34)) [] ?hp ?_; (case hp => exact zz19); intro v200 w3 ho4 hb hg_ hnew_; clear hg_ hnew_; (first | rw [← Ny199.out] at ho4 | (simp only [Int.reduceToNat] at ho4; rw [← Ny199.out] at ho4)); have HO201 := Aside0.mk (Kd.R_lower ho4 (keep_size (w := w) (g := g) (row := none) zz11)); replace HK := Aside0.mk (KeepBut.trans zz11 (KeepBut.of_below hb g none) (.inl rfl)); replace HB := Aside0.mk (below_step (zz12 HI0) hb); replace HI0 := Aside0.mk (IsS64.below (zz10 HI0) hb); clear hb ho4) | (refine gc (some 8) Tryz.func28 #[.pointer (some ⟨g, 0, none⟩), .int .i64 8] ?_; (with_reducible refine (spec_l1Rd_pick.calls k g s0_0 s0_1 8 t202 t203 w0 _ ?side1 ?side2 A2.out).mono ?_); (case side1 => exact zz10 HI0); (case side2 => exact zz12 HI0); rintro e w5 ⟨rfl, hi, hb, hk⟩; refine ⟨_, rfl, ?_⟩; replace HO201 := Aside0.mk (Kd.R_mono (Kd.R_keep (IsS64.apart (show IsS64 w0 _ g s0_0 s0_1 from zz10 HI0) (zz22 HO201) (by decide)) hk (fun _ h => h.2)) (fun _ h => h.1)); replace HK := Aside0.mk (KeepBut.trans zz11 hk (.inl rfl)); replace HB := Aside0.mk hb; replace HI0 := Aside0.mk hi; clear hb hk hi))
 go_loopg [3, 4] k (fun kq v3 v4 w' => ∃ (x3_1 : List (S34)) (x4_1 : Int) (x1001_1 : Int), v4 = .int .i64 x4_1 ∧ Aside0 (spec_l12Ways.l0 kq x3_1 x4_1 s0_0 x1001_1 = some (r1, r2)) ∧ Aside0 (kq ≤ k) ∧ Aside0 (Kd.R k34 34 w' w.heap.size (fun _ => True) v3 x3_1) ∧ Aside0 (IsS64 w0 w' g s0_0 x1001_1) ∧ Aside0 (KeepBut w w' g none) ∧ Aside0 (Below w0.heap.size w0 w'))
 case atStart => exact ⟨(y199), (t202), (t203), zz8, H', ⟨Nat.le_refl _⟩, ⟨zz22 HO201⟩, ⟨zz10 HI0⟩, ⟨zz11⟩, ⟨zz12 HI0⟩⟩
 case round =>
  clear H'
  try clear c2
  try clear p2
  try clear c3
  obtain ⟨x3_1, x4_1, x1001_1, rfl, HA, HK1, HO_3, HI0, HK, HB⟩ := hrel
  cases gk with
  | zero => exact absurd HA.out (by simp [spec_l12Ways.l0])
  | succ k1 =>
   have H := HA.out
   clear HA
   simp only [spec_l12Ways.l0] at H
   replace H := ic H
   rcases H with ⟨c6b0, H⟩ | ⟨c6b0, H⟩
   ·replace H := Option.bind_eq_some_iff.mp H
    obtain ⟨⟨t204, t205, t206⟩, A70, H⟩ := H
    replace H : ((spec_l1Rd_pick.f k1 s0_0 t206 3).bind fun bt207 => ((spec_WaysPut.f k1 x3_1 t204 t205 bt207.1).bind fun bt209 => (spec_l12Ways.l0 k1 bt209.1 (wrap64 (x4_1 - 1)) s0_0 bt207.2))) = some (r1, r2) := H
    have A7 := Aside0.mk A70
    clear A70
    replace H := bd H
    obtain ⟨⟨t207, t208⟩, A8, H⟩ := H
    replace H : ((spec_WaysPut.f k1 x3_1 t204 t205 t207).bind fun bt209 => (spec_l12Ways.l0 k1 bt209.1 (wrap64 (x4_1 - 1)) s0_0 t208)) = some (r1, r2) := H
    replace H := bd H
    obtain ⟨⟨t209, t212⟩, A9, H⟩ := H
    replace H : (spec_l12Ways.l0 k1 t209 (wrap64 (x4_1 - 1)) s0_0 t208) = some (r1, r2) := H
    have H' := Aside0.mk H
    clear H
    go_wp2_with (first | (refine gc (some 16) Tryz.func57 #[.pointer (some ⟨g, 0, none⟩)] ?_; (with_reducible refine (spec_l12Block.calls k1 g s0_0 x1001_1 t204 t205 t206 w0 _ ?side1 ?side2 A7.out).mono ?_); (case side1 => exact zz10 HI0); (case side2 => exact zz12 HI0); rintro e w10 ⟨rfl, hi, hb, hk⟩; refine ⟨_, rfl, ?_⟩; replace HO_3 := Aside0.mk (Kd.R_mono (Kd.R_keep (IsS64.apart (show IsS64 w0 _ g s0_0 x1001_1 from zz10 HI0) (zz22 HO_3) (by decide)) hk (fun _ h => h.2)) (fun _ h => h.1)); replace HK := Aside0.mk (KeepBut.trans zz11 hk (.inl rfl)); replace HB := Aside0.mk hb; replace HI0 := Aside0.mk hi; clear hb hk hi) | (refine gc (some 18) Tryz.func28 #[.pointer (some ⟨g, 0, none⟩), .int .i64 3] ?_; (with_reducible refine (spec_l1Rd_pick.calls k1 g s0_0 t206 3 t207 t208 w0 _ ?side1 ?side2 A8.out).mono ?_); (case side1 => exact zz10 HI0); (case side2 => exact zz12 HI0); rintro e w11 ⟨rfl, hi, hb, hk⟩; refine ⟨_, rfl, ?_⟩; replace HO_3 := Aside0.mk (Kd.R_mono (Kd.R_keep (IsS64.apart (show IsS64 w0 _ g s0_0 t206 from zz10 HI0) (zz22 HO_3) (by decide)) hk (fun _ h => h.2)) (fun _ h => h.1)); replace HK := Aside0.mk (KeepBut.trans zz11 hk (.inl rfl)); replace HB := Aside0.mk hb; replace HI0 := Aside0.mk hi; clear hb hk hi; obtain ⟨Ao12, co12, eo12⟩ := Kd.R_slice HO_3.out; subst eo12) | (refine gc (some 20) Tryz.func56 #[.slice Ao12 x3_1.length co12, .agg #[.int .i64 t204, .int .i64 t205, .int .i64 t207]] ?_; (with_reducible refine (spec_WaysPut.calls k1 _ _ x3_1 t204 t205 t207 t209 t212 _ ?side1 ?side2 A9.out).mono ?_); (case side1 => exact zz31 HO_3); (case side2 => exact zz33 HO_3); rintro e w13 ⟨v210, rfl, ho0, hb⟩; refine ⟨_, rfl, ?_⟩; have HO211 := Aside0.mk (Kd.R_lower (Kd.R_new' ho0 (Kd.R_lt (zz22 HO_3))) (keep_size (w := w) (g := g) (row := none) zz11)); replace HO_3 := Aside0.mk (Kd.R_elder' (zz22 HO_3) (Kd.R_base ho0) hb); replace HK := Aside0.mk (KeepBut.trans zz11 (KeepBut.of_below hb g none) (.inl rfl)); replace HB := Aside0.mk (below_step (zz12 HI0) hb); replace HI0 := Aside0.mk (IsS64.below (zz10 HI0) hb); clear hb ho0))
    go_roundg k1
    case measure => have := HK1.out; omega
    case rel => exact ⟨(t209), (wrap64 (x4_1 - 1)), (t208), zz8, H', ⟨zz15 HK1⟩, ⟨zz25 HO211⟩, ⟨zz10 HI0⟩, ⟨zz11⟩, ⟨zz12 HI0⟩⟩
   ·replace H := Option.bind_eq_some_iff.mp H
    obtain ⟨⟨t213, t214⟩, A140, H⟩ := H
    replace H : (if t213 = 0 then (spec_l12Ways.l1 k1 x3_1 0 s0_0 t214) else (some (x3_1, t214))) = some (r1, r2) := H
    have A14 := Aside0.mk A140
    clear A140
    by_cases c15 : t213 = 0
    ·rw [if_pos c15] at H
     have c15b0 : (t213 == 0) = true := beq_iff_eq.mpr c15
     have c15b1 : (t213 != 0) = false := bne_eq_false_iff_eq.mpr c15
     clear c15
     have H' := Aside0.mk H
     clear H
     go_wp2_with (first | (refine gc (some 24) Tryz.func28 #[.pointer (some ⟨g, 0, none⟩), .int .i64 24] ?_; (with_reducible refine (spec_l1Rd_pick.calls k1 g s0_0 x1001_1 24 t213 t214 w0 _ ?side1 ?side2 A14.out).mono ?_); (case side1 => exact zz10 HI0); (case side2 => exact zz12 HI0); rintro e w16 ⟨rfl, hi, hb, hk⟩; refine ⟨_, rfl, ?_⟩; replace HO_3 := Aside0.mk (Kd.R_mono (Kd.R_keep (IsS64.apart (show IsS64 w0 _ g s0_0 x1001_1 from zz10 HI0) (zz22 HO_3) (by decide)) hk (fun _ h => h.2)) (fun _ h => h.1)); replace HK := Aside0.mk (KeepBut.trans zz11 hk (.inl rfl)); replace HB := Aside0.mk hb; replace HI0 := Aside0.mk hi; clear hb hk hi))
     go_loopg [3, 5] k1 (fun kq v3 v5 w' => ∃ (x3_2 : List (S34)) (x5_2 : Int), v5 = .int .i64 x5_2 ∧ Aside0 (spec_l12Ways.l1 kq x3_2 x5_2 s0_0 t214 = some (r1, r2)) ∧ Aside0 (kq ≤ k1) ∧ Aside0 (Kd.R k34 34 w' w.heap.size (fun _ => True) v3 x3_2) ∧ Aside0 (IsS64 w0 w' g s0_0 t214) ∧ Aside0 (KeepBut w w' g none) ∧ Aside0 (Below w0.heap.size w0 w'))
     case atStart => exact ⟨(x3_1), (0), zz8, H', ⟨Nat.le_refl _⟩, ⟨zz22 HO_3⟩, ⟨zz10 HI0⟩, ⟨zz11⟩, ⟨zz12 HI0⟩⟩
     case round =>
      clear H'
      try clear c1
      try clear c2
      try clear p2
      try clear c3
      try clear c5
      try clear c6
      try clear c6b0
      try clear p6
      try clear c15
      try clear c15b0
      try clear c15b1
      try clear p2
      obtain ⟨x3_2, x5_2, rfl, HA, HK2, HO_3, HI0, HK, HB⟩ := hrel
      cases gk with
      | zero => exact absurd HA.out (by simp [spec_l12Ways.l1])
      | succ k2 =>
       have H := HA.out
       clear HA
       simp only [spec_l12Ways.l1] at H
       by_cases c17 : (x3_2.length : Int) < 40
       ·rw [if_pos c17] at H
        have c17b0 : decide ((x3_2.length : Int) < 40) = true := decide_eq_true c17
        have c17b1 : decide (x3_2.length < 40) = true := decide_eq_true (by omega)
        clear c17
        replace H := bd H
        obtain ⟨⟨t215, t218⟩, A18, H⟩ := H
        replace H : (spec_l12Ways.l1 k2 t215 (wrap64 (x5_2 + 1)) s0_0 t214) = some (r1, r2) := H
        have H' := Aside0.mk H
        clear H
        obtain ⟨Ao19, co19, eo19⟩ := Kd.R_slice HO_3.out
        subst eo19
        go_wp2_with (first | (refine gc (some 39) Tryz.func56 #[.slice Ao19 x3_2.length co19, .agg #[.int .i64 (wrap64 (x5_2 * 2)), .int .i64 32, .int .i64 (Int.tmod x5_2 3)]] ?_; (with_reducible refine (spec_WaysPut.calls k2 _ _ x3_2 (wrap64 (x5_2 * 2)) 32 (Int.tmod x5_2 3) t215 t218 _ ?side1 ?side2 A18.out).mono ?_); (case side1 => exact zz31 HO_3); (case side2 => exact zz33 HO_3); rintro e w20 ⟨v216, rfl, ho0, hb⟩; refine ⟨_, rfl, ?_⟩; have HO217 := Aside0.mk (Kd.R_lower (Kd.R_new' ho0 (Kd.R_lt (zz22 HO_3))) (keep_size (w := w) (g := g) (row := none) zz11)); replace HO_3 := Aside0.mk (Kd.R_elder' (zz22 HO_3) (Kd.R_base ho0) hb); replace HK := Aside0.mk (KeepBut.trans zz11 (KeepBut.of_below hb g none) (.inl rfl)); replace HB := Aside0.mk (below_step (zz12 HI0) hb); replace HI0 := Aside0.mk (IsS64.below (zz10 HI0) hb); clear hb ho0))
        go_roundg k2
        case measure => have := HK1.out; have := HK2.out; omega
        case rel => exact ⟨(t215), (wrap64 (x5_2 + 1)), zz8, H', ⟨zz39 HK1 HK2⟩, ⟨zz25 HO217⟩, ⟨zz10 HI0⟩, ⟨zz11⟩, ⟨zz12 HI0⟩⟩
       ·rw [if_neg c17] at H
        have c17b0 : decide ((x3_2.length : Int) < 40) = false := decide_eq_false c17
        have c17b1 : decide (x3_2.length < 40) = false := decide_eq_false (by omega)
        clear c17
        simp only [Option.some.injEq, Prod.mk.injEq] at H
        obtain ⟨rfl, rfl⟩ := H
        obtain ⟨Ao21, co21, eo21⟩ := Kd.R_slice HO_3.out
        subst eo21
        go_wp2
        go_ret
        exact ⟨_, zz13, zz22 HO_3, zz10 HI0, zz12 HI0, zz11⟩
    ·rw [if_neg c15] at H
     have c15b0 : (t213 == 0) = false := beq_eq_false_iff_ne.mpr c15
     have c15b1 : (t213 != 0) = true := bne_iff_ne.mpr c15
     simp only [Option.some.injEq, Prod.mk.injEq] at H
     obtain ⟨rfl, rfl⟩ := H
     go_wp2_with (first | (refine gc (some 24) Tryz.func28 #[.pointer (some ⟨g, 0, none⟩), .int .i64 24] ?_; (with_reducible refine (spec_l1Rd_pick.calls k1 g s0_0 x1001_1 24 t213 t214 w0 _ ?side1 ?side2 A14.out).mono ?_); (case side1 => exact zz10 HI0); (case side2 => exact zz12 HI0); rintro e w22 ⟨rfl, hi, hb, hk⟩; refine ⟨_, rfl, ?_⟩; replace HO_3 := Aside0.mk (Kd.R_mono (Kd.R_keep (IsS64.apart (show IsS64 w0 _ g s0_0 x1001_1 from zz10 HI0) (zz22 HO_3) (by decide)) hk (fun _ h => h.2)) (fun _ h => h.1)); replace HK := Aside0.mk (KeepBut.trans zz11 hk (.inl rfl)); replace HB := Aside0.mk hb; replace HI0 := Aside0.mk hi; clear hb hk hi))
     go_ret
     exact ⟨_, zz13, zz22 HO_3, zz10 HI0, zz12 HI0, zz11⟩
def spec_l12AnyBlock.f (k : Nat) (s0_0 : List Int) (s0_1 : Int) : Option (Int × Int × Int) := (spec_l12Block.f k s0_0 s0_1).bind fun bt220 => ((spec_l1Rd_pick.f k s0_0 bt220.2.2 16).bind fun bt224 => (if bt224.1 = 0 then ((spec_l1Rd_one.f k s0_0 bt224.2 (([1, (-1), 256] : List Int))).bind fun bt229 => (some (wrap64 (bt220.1 + bt229.1), bt220.2.1, bt229.2))) else (if bt224.1 = 1 then ((spec_l1Rd_one.f k s0_0 bt224.2 (([(-1), 33, 0, 32] : List Int))).bind fun bt234 => (some (bt220.1, bt234.1, bt234.2))) else (some (bt220.1, bt220.2.1, bt224.2)))))
def spec_l12AnyBlock.T4 : Bool × List (List Nat × List Nat) := (true, [([], []), ([0], [0]), ([], []), ([], []), ([2, 3], [2, 3]), ([1, 4], [1, 4]), ([0, 1, 2, 3, 4, 5], []), ([6, 5, 4, 0, 1, 2, 3, 4, 5], [5, 6])])
def spec_l12AnyBlock.B4 : List Nat := [0, 1, 0, 0, 12, 31, 63, 127]
theorem spec_l12AnyBlock.tab4 : rtab .any (opsOf Tryz.f39 4) = spec_l12AnyBlock.T4 := by kernel_rfl
theorem spec_l12AnyBlock.bits4 : waitsOk spec_l12AnyBlock.T4.2 spec_l12AnyBlock.B4 = true := by kernel_rfl
set_option maxHeartbeats 8000000 in
set_option maxRecDepth 100000 in
theorem spec_l12AnyBlock.calls (k : Nat) (g : Nat) (s0_0 : List Int) (s0_1 : Int) (r1 : Int) (r2 : Int) (r3 : Int) (w0 w : World) (hI : IsS64 w0 w g s0_0 s0_1) (hB : Below w0.heap.size w0 w) (h : spec_l12AnyBlock.f k s0_0 s0_1 = some (r1, r2, r3)) :
  Calls Tryz.prog 39 #[.pointer (some ⟨g, 0, none⟩)] w fun e w' => e = .returned (.agg #[.int .i64 r1, .int .i64 r2]) ∧ IsS64 w0 w' g s0_0 r3 ∧ Below w0.heap.size w0 w' ∧ KeepBut w w' g none := by
 have hu32 := Tryz.underlying32
 have HI0 := Aside0.mk hI
 have HK := Aside0.mk (KeepBut.refl w g none)
 have HL := Aside0.mk hB.size
 clear hI
 have HW0 := Aside0.mk hB.size
 have HB := Aside0.mk hB
 clear hB
 have H : ((spec_l12Block.f k s0_0 s0_1).bind fun bt220 => ((spec_l1Rd_pick.f k s0_0 bt220.2.2 16).bind fun bt224 => (if bt224.1 = 0 then ((spec_l1Rd_one.f k s0_0 bt224.2 (([1, (-1), 256] : List Int))).bind fun bt229 => (some (wrap64 (bt220.1 + bt229.1), bt220.2.1, bt229.2))) else (if bt224.1 = 1 then ((spec_l1Rd_one.f k s0_0 bt224.2 (([(-1), 33, 0, 32] : List Int))).bind fun bt234 => (some (bt220.1, bt234.1, bt234.2))) else (some (bt220.1, bt220.2.1, bt224.2)))))) = some (r1, r2, r3) := h
 clear h
 replace H := bd H
 obtain ⟨⟨t220, t221, t222⟩, A2, H⟩ := H
 replace H : ((spec_l1Rd_pick.f k s0_0 t222 16).bind fun bt224 => (if bt224.1 = 0 then ((spec_l1Rd_one.f k s0_0 bt224.2 (([1, (-1), 256] : List Int))).bind fun bt229 => (some (wrap64 (t220 + bt229.1), t221, bt229.2))) else (if bt224.1 = 1 then ((spec_l1Rd_one.f k s0_0 bt224.2 (([(-1), 33, 0, 32] : List Int))).bind fun bt234 => (some (t220, bt234.1, bt234.2))) else (some (t220, t221, bt224.2))))) = some (r1, r2, r3) := H
 replace H := bd H
 obtain ⟨⟨t224, t225⟩, A3, H⟩ := H
 replace H : (if t224 = 0 then ((spec_l1Rd_one.f k s0_0 t225 (([1, (-1), 256] : List Int))).bind fun bt229 => (some (wrap64 (t220 + bt229.1), t221, bt229.2))) else (if t224 = 1 then ((spec_l1Rd_one.f k s0_0 t225 (([(-1), 33, 0, 32] : List Int))).bind fun bt234 => (some (t220, bt234.1, bt234.2))) else (some (t220, t221, t225)))) = some (r1, r2, r3) := H
 by_cases c4 : t224 = 0
 ·rw [if_pos c4] at H
  have c4b0 : (t224 == 0) = true := beq_iff_eq.mpr c4
  have c4b1 : (t224 != 0) = false := bne_eq_false_iff_eq.mpr c4
  clear c4
  obtain ⟨y226, hy226⟩ : ∃ y_ : List Int, y_ = (([1, (-1), 256] : List Int)) := ⟨_, rfl⟩
  replace H : ((spec_l1Rd_one.f k s0_0 t225 y226).bind fun bt229 => (some (wrap64 (t220 + bt229.1), t221, bt229.2))) = some (r1, r2, r3) := by first | (rw [hy226]; with_reducible exact H) | (have H2_ := (Option.bind_some _ _).symm.trans H; rw [hy226]; with_reducible exact H2_) | (have H2_ := (Option.bind_some _ _).symm.trans H; with_reducible exact H2_) | with_reducible exact H | (rw [hy226]; exact H) | exact H
  have Ny226 := Aside0.mk hy226
  clear hy226
  replace H := bd H
  obtain ⟨⟨t229, t230⟩, A5, H⟩ := H
  replace H : (some (wrap64 (t220 + t229), t221, t230)) = some (r1, r2, r3) := H
  simp only [Option.some.injEq, Prod.mk.injEq] at H
  obtain ⟨rfl, rfl, rfl⟩ := H
  go_enter Tryz.func39, Tryz.ntmps39
  try go_wp2_with (first | (refine be 2 #[.int .i64 0, .int .i64 0] 32 ?_; intro gb219 hg w6 hbox hb; replace HB := Aside0.mk (below_step (zz12 HI0) hb); have BK219 := Aside0.mk hbox; have GW219 := Aside0.mk (zz35 : w.heap.size ≤ gb219); have GE219 := Aside0.mk (Nat.le_trans HW0.out (zz35 : w.heap.size ≤ gb219) : w0.heap.size ≤ gb219); replace HK := Aside0.mk (KeepBut.trans zz11 (KeepBut.of_below hb g none) (.inl rfl)); have NB0_219 := Aside0.mk (by rw [hg]; exact Nat.ne_of_lt (IsS64.lt (show IsS64 w0 _ g s0_0 s0_1 from zz10 HI0)) : g ≠ gb219); have NB219_0 := Aside0.mk (by rw [hg]; exact Nat.ne_of_gt (IsS64.lt (show IsS64 w0 _ g s0_0 s0_1 from zz10 HI0)) : gb219 ≠ g); replace HI0 := Aside0.mk (IsS64.below (zz10 HI0) hb); clear hb hbox hg) | (refine gc (some 5) Tryz.func57 #[.pointer (some ⟨g, 0, none⟩)] ?_; (with_reducible refine (spec_l12Block.calls k g s0_0 s0_1 t220 t221 t222 w0 _ ?side1 ?side2 A2.out).mono ?_); (case side1 => exact zz36 HI0 NB0_219); (case side2 => exact zz37 HI0 GE219); rintro e w7 ⟨rfl, hi, hb, hk⟩; refine ⟨_, rfl, ?_⟩; replace BK219 := Aside0.mk (KeepBut.blk hk (g' := gb219) (o := .cells #[.int .i64 0, .int .i64 0] 32 (0, 0)) (zz5 BK219) NB219_0.out (by simp)); replace HK := Aside0.mk (KeepBut.trans (zz38 GW219) hk (.inl rfl)); replace HB := Aside0.mk hb; replace HI0 := Aside0.mk hi; clear hb hk hi) | (refine be 3 #[.int .i64 0, .int .i64 0] 32 ?_; intro gb223 hg w8 hbox hb; replace HB := Aside0.mk (below_step (zz37 HI0 GE219) hb); have BK223 := Aside0.mk hbox; have GW223 := Aside0.mk (zz40 GW219 : w.heap.size ≤ gb223); have GE223 := Aside0.mk (Nat.le_trans HW0.out (zz40 GW219 : w.heap.size ≤ gb223) : w0.heap.size ≤ gb223); replace HK := Aside0.mk (KeepBut.trans (zz38 GW219) (KeepBut.of_below hb g none) (.inl rfl)); have NB219_223 := Aside0.mk (by rw [hg]; exact Nat.ne_of_lt (blk_lt (g := gb219) (o := .cells #[.int .i64 0, .int .i64 0] 32 (0, 0)) (zz5 BK219)) : gb219 ≠ gb223); have NB223_219 := Aside0.mk (by rw [hg]; exact Nat.ne_of_gt (blk_lt (g := gb219) (o := .cells #[.int .i64 0, .int .i64 0] 32 (0, 0)) (zz5 BK219)) : gb223 ≠ gb219); replace BK219 := Aside0.mk (blk_below (g := gb219) (o := .cells #[.int .i64 0, .int .i64 0] 32 (0, 0)) (zz5 BK219) hb); have NB0_223 := Aside0.mk (by rw [hg]; exact Nat.ne_of_lt (IsS64.lt (show IsS64 w0 _ g s0_0 t222 from zz36 HI0 NB0_219)) : g ≠ gb223); have NB223_0 := Aside0.mk (by rw [hg]; exact Nat.ne_of_gt (IsS64.lt (show IsS64 w0 _ g s0_0 t222 from zz36 HI0 NB0_219)) : gb223 ≠ g); replace HI0 := Aside0.mk (IsS64.below (zz36 HI0 NB0_219) hb); clear hb hbox hg; have hnb9 := NB223_219.out; have hnc9 := NB219_223.out; have hnb10 := NB223_0.out; have hnc10 := NB0_223.out; have hcz11_0 : w8.cell? ⟨gb223, 0, none⟩ = some (.int .i64 0) := (blk_cell BK223.out 0).trans rfl; have hcz11_1 : w8.cell? ⟨gb223, 1, none⟩ = some (.int .i64 0) := (blk_cell BK223.out 1).trans rfl; have hfz11_0 := blk_frozen BK223.out 0; have hfz11_1 := blk_frozen BK223.out 1) | (refine gc (some 7) Tryz.func28 #[.pointer (some ⟨g, 0, none⟩), .int .i64 16] ?_; (with_reducible refine (spec_l1Rd_pick.calls k g s0_0 t222 16 t224 t225 w0 _ ?side1 ?side2 A3.out).mono ?_); (case side1 => exact zz41 HI0 NB0_219 NB0_223); (case side2 => exact zz42 HI0 GE219 GE223); rintro e w12 ⟨rfl, hi, hb, hk⟩; refine ⟨_, rfl, ?_⟩; replace BK219 := Aside0.mk (KeepBut.blk hk (g' := gb219) (o := .cells #[.int .i64 0, .int .i64 0] 32 (0, 0)) (zz43 NB219_223 BK219) NB219_0.out (by simp)); replace BK223 := Aside0.mk (KeepBut.blk hk (g' := gb223) (o := .cells #[.int .i64 t220, .int .i64 t221] 32 (0, 0)) (by (with_reducible repeat (first | refine blk_drewN ?_ _ | refine blk_drew ?_ | refine blk_alloc ?_ _)); refine blk_put (cs := #[.int .i64 t220, .int .i64 0]) ?_ 1 _ rfl; (with_reducible repeat (first | refine blk_drewN ?_ _ | refine blk_drew ?_ | refine blk_alloc ?_ _)); refine blk_put (cs := #[.int .i64 0, .int .i64 0]) ?_ 0 _ rfl; (with_reducible repeat (first | refine blk_drewN ?_ _ | refine blk_drew ?_ | refine blk_alloc ?_ _)); exact BK223.out) NB223_0.out (by simp)); replace HK := Aside0.mk (KeepBut.trans (zz44 GW219 GW223) hk (.inl rfl)); replace HB := Aside0.mk hb; replace HI0 := Aside0.mk hi; clear hb hk hi))
  replace BK219 := Aside0.mk (blk_drew BK219.out)
  replace BK223 := Aside0.mk (blk_drew BK223.out)
  replace HI0 := Aside0.mk (IsS64.drew HI0.out)
  replace HK := Aside0.mk (keep_drew HK.out)
  replace HB := Aside0.mk (below_drew1 HB.out)
  refine start_ (n := 8) (S := fun w' => w'.cell? ⟨gb223, 0, none⟩ = some (.int .i64 t220) ∧ w'.cell? ⟨gb223, 1, none⟩ = some (.int .i64 t221)) (ds := [7]) (bm 8 0) (by kernel_rfl) rfl rfl ⟨(blk_cell BK223.out 0).trans rfl, (blk_cell BK223.out 1).trans rfl⟩ (fun hHeld => ?_); refine with_tabW spec_l12AnyBlock.tab4 spec_l12AnyBlock.bits4 (fun HT_ HW_ => ?_)
  generalize w12.drew = w13 at BK219 BK223 HI0 HK HB hHeld ⊢
  refine pu 0 10 (bm 8 1) ?_
  refine pu 2 12 (bm 8 5) ?_
  refine tk 1 11 (bm 8 7) ?_
  refine on 3 (some 13) (bm 8 15) (fun K hK => ?_)
  refine rls (Kd.int .i64) 3 13 ([1, (-1), 256] : List Int) [.int .i64 1, .int .i64 (-1), .int .i64 256] ?hp ?_; (case hp => exact (ro (ro (ro (Reps.none _ _)))))
  intro v227 w14 ho15 hb hg_ hnew_
  clear hg_ hnew_
  (first | rw [← Ny226.out] at ho15 | (simp only [Int.reduceToNat] at ho15; rw [← Ny226.out] at ho15))
  have HO228 := Aside0.mk (Kd.R_lower ho15 (keep_size (w := w) (g := g) (row := none) (zz44 GW219 GW223)))
  replace BK219 := Aside0.mk (blk_below (g := gb219) (o := .cells #[.int .i64 0, .int .i64 0] 32 (0, 0)) (zz5 BK219) hb)
  replace BK223 := Aside0.mk (blk_below (g := gb223) (o := .cells #[.int .i64 t220, .int .i64 t221] 32 (0, 0)) (zz5 BK223) hb)
  replace HK := Aside0.mk (KeepBut.trans (zz44 GW219 GW223) (KeepBut.of_below hb g none) (.inl rfl))
  replace HB := Aside0.mk (below_step (zz42 HI0 GE219 GE223) hb)
  replace HI0 := Aside0.mk (IsS64.below (zz41 HI0 NB0_219 NB0_223) hb)
  clear hb ho15
  obtain ⟨Ao16, co16, eo16⟩ := Kd.R_slice HO228.out
  (first | subst eo16 | (injection eo16 with f1_ f2_ f3_; have f4_ := f1_.symm; have f5_ := f3_.symm; clear f1_ f2_ f3_; subst f4_; subst f5_))
  refine hK.out _ _ ⟨(blk_cell BK223.out 0).trans rfl, (blk_cell BK223.out 1).trans rfl⟩ (fun hHeld => ?_)
  clear hK K
  refine nm 13 ?_
  refine on 4 (some 14) (bm 8 31) (fun K hK => ?_)
  refine gs Tryz.func15 #[.pointer (some ⟨g, 0, none⟩), .slice Ao16 y226.length co16] ?_
  with_reducible refine (spec_l1Rd_one.calls k g s0_0 t225 _ _ y226 t229 t230 w0 _ ?side1 ?side2 ?side3 ?side4 ?side5 A5.out).mono ?_
  (case side1 => exact zz41 HI0 NB0_219 NB0_223)
  (case side2 => exact zz42 HI0 GE219 GE223)
  (case side3 => exact zz31 HO228)
  (case side4 => exact zz33 HO228)
  (case side5 => exact zz34 HI0 HO228)
  rintro e w17 ⟨rfl, hi, hb, hk⟩
  refine ⟨_, rfl, ?_⟩
  replace BK219 := Aside0.mk (KeepBut.blk hk (g' := gb219) (o := .cells #[.int .i64 0, .int .i64 0] 32 (0, 0)) (zz5 BK219) NB219_0.out (by simp))
  replace BK223 := Aside0.mk (KeepBut.blk hk (g' := gb223) (o := .cells #[.int .i64 t220, .int .i64 t221] 32 (0, 0)) (zz5 BK223) NB223_0.out (by simp))
  replace HO228 := Aside0.mk (Kd.R_mono (Kd.R_keep (IsS64.apart (show IsS64 w0 _ g s0_0 t225 from zz41 HI0 NB0_219 NB0_223) (zz22 HO228) (by decide)) hk (fun _ h => h.2)) (fun _ h => h.1))
  replace HK := Aside0.mk (KeepBut.trans (zz44 GW219 GW223) hk (.inl rfl))
  replace HB := Aside0.mk hb
  replace HI0 := Aside0.mk hi
  (try clear hb)
  (try clear hb2)
  (try clear hk)
  (try clear hi)
  refine hK.out _ _ ⟨(blk_cell BK223.out 0).trans rfl, (blk_cell BK223.out 1).trans rfl⟩ (fun hHeld => ?_)
  clear hK K
  refine nm 14 ?_
  refine pu 5 15 (bm 8 63) ?_
  refine pu 6 16 (bm 8 127) ?_
  refine last_ (i := 7) (N := none) (bm 8 255) rfl rfl (one_of HT_.out (by kernel_rfl)) (by decide) (fun K hK => ?_)
  have hs18 : w17.cell? ⟨gb223, 0, none⟩ = some (.int .i64 t220) := (blk_cell BK223.out 0).trans rfl
  have hfs18 := blk_frozen BK223.out 0
  have hns18_0 := NB219_223.out
  have hms18_0 := NB223_219.out
  refine skip_ (w1 := ?_) (by rfl) rfl ?_ ?_
  rotate_left
  ·go_simp
   rfl
  refine hK.out _ _ ?_
  clear hK K
  refine done_ (done_of HT_.out (by kernel_rfl)) ?_
  have hcz19_0 : w17.cell? ⟨gb223, 0, none⟩ = some (.int .i64 t220) := (blk_cell BK223.out 0).trans rfl
  have hcz19_1 : w17.cell? ⟨gb223, 1, none⟩ = some (.int .i64 t221) := (blk_cell BK223.out 1).trans rfl
  have hfz19_0 := blk_frozen BK223.out 0
  have hfz19_1 := blk_frozen BK223.out 1
  have hnb20 := NB219_0.out
  have hnc20 := NB0_219.out
  have hcz21_0 : w17.cell? ⟨gb219, 0, none⟩ = some (.int .i64 0) := (blk_cell BK219.out 0).trans rfl
  have hcz21_1 : w17.cell? ⟨gb219, 1, none⟩ = some (.int .i64 0) := (blk_cell BK219.out 1).trans rfl
  have hfz21_0 := blk_frozen BK219.out 0
  have hfz21_1 := blk_frozen BK219.out 1
  try go_wp2
  refine bodyPost_ret (results_cell_row rfl _ _ gb219 32 #[.int .i64 (wrap64 (t220 + t229)), .int .i64 t221] (0, 0) _ rfl (by (with_reducible repeat (first | refine blk_drewN ?_ _ | refine blk_drew ?_ | refine blk_alloc ?_ _)); refine blk_put (cs := #[.int .i64 (wrap64 (t220 + t229)), .int .i64 0]) ?_ 1 _ rfl; (with_reducible repeat (first | refine blk_drewN ?_ _ | refine blk_drew ?_ | refine blk_alloc ?_ _)); refine blk_put (cs := #[.int .i64 0, .int .i64 0]) ?_ 0 _ rfl; (with_reducible repeat (first | refine blk_drewN ?_ _ | refine blk_drew ?_ | refine blk_alloc ?_ _)); refine blk_far ?_ NB219_223.out _; (with_reducible repeat (first | refine blk_drewN ?_ _ | refine blk_drew ?_ | refine blk_alloc ?_ _)); exact BK219.out) Tryz.underlying32 rfl (by kernel_rfl)) rfl ?_
  exact ⟨zz13, zz41 HI0 NB0_219 NB0_223, zz42 HI0 GE219 GE223, zz44 GW219 GW223⟩
 ·rw [if_neg c4] at H
  have c4b0 : (t224 == 0) = false := beq_eq_false_iff_ne.mpr c4
  have c4b1 : (t224 != 0) = true := bne_iff_ne.mpr c4
  by_cases c22 : t224 = 1
  ·rw [if_pos c22] at H
   have c22b0 : (t224 == 1) = true := beq_iff_eq.mpr c22
   have c22b1 : (t224 != 1) = false := bne_eq_false_iff_eq.mpr c22
   clear c22
   obtain ⟨y231, hy231⟩ : ∃ y_ : List Int, y_ = (([(-1), 33, 0, 32] : List Int)) := ⟨_, rfl⟩
   replace H : ((spec_l1Rd_one.f k s0_0 t225 y231).bind fun bt234 => (some (t220, bt234.1, bt234.2))) = some (r1, r2, r3) := by first | (rw [hy231]; with_reducible exact H) | (have H2_ := (Option.bind_some _ _).symm.trans H; rw [hy231]; with_reducible exact H2_) | (have H2_ := (Option.bind_some _ _).symm.trans H; with_reducible exact H2_) | with_reducible exact H | (rw [hy231]; exact H) | exact H
   have Ny231 := Aside0.mk hy231
   clear hy231
   replace H := bd H
   obtain ⟨⟨t234, t235⟩, A23, H⟩ := H
   replace H : (some (t220, t234, t235)) = some (r1, r2, r3) := H
   simp only [Option.some.injEq, Prod.mk.injEq] at H
   obtain ⟨rfl, rfl, rfl⟩ := H
   go_enter Tryz.func39, Tryz.ntmps39
   go_wp2_with (first | (refine be 2 #[.int .i64 0, .int .i64 0] 32 ?_; intro gb219 hg w24 hbox hb; replace HB := Aside0.mk (below_step (zz12 HI0) hb); have BK219 := Aside0.mk hbox; have GW219 := Aside0.mk (zz35 : w.heap.size ≤ gb219); have GE219 := Aside0.mk (Nat.le_trans HW0.out (zz35 : w.heap.size ≤ gb219) : w0.heap.size ≤ gb219); replace HK := Aside0.mk (KeepBut.trans zz11 (KeepBut.of_below hb g none) (.inl rfl)); have NB0_219 := Aside0.mk (by rw [hg]; exact Nat.ne_of_lt (IsS64.lt (show IsS64 w0 _ g s0_0 s0_1 from zz10 HI0)) : g ≠ gb219); have NB219_0 := Aside0.mk (by rw [hg]; exact Nat.ne_of_gt (IsS64.lt (show IsS64 w0 _ g s0_0 s0_1 from zz10 HI0)) : gb219 ≠ g); replace HI0 := Aside0.mk (IsS64.below (zz10 HI0) hb); clear hb hbox hg) | (refine gc (some 5) Tryz.func57 #[.pointer (some ⟨g, 0, none⟩)] ?_; (with_reducible refine (spec_l12Block.calls k g s0_0 s0_1 t220 t221 t222 w0 _ ?side1 ?side2 A2.out).mono ?_); (case side1 => exact zz36 HI0 NB0_219); (case side2 => exact zz37 HI0 GE219); rintro e w25 ⟨rfl, hi, hb, hk⟩; refine ⟨_, rfl, ?_⟩; replace BK219 := Aside0.mk (KeepBut.blk hk (g' := gb219) (o := .cells #[.int .i64 0, .int .i64 0] 32 (0, 0)) (zz5 BK219) NB219_0.out (by simp)); replace HK := Aside0.mk (KeepBut.trans (zz38 GW219) hk (.inl rfl)); replace HB := Aside0.mk hb; replace HI0 := Aside0.mk hi; clear hb hk hi) | (refine be 3 #[.int .i64 0, .int .i64 0] 32 ?_; intro gb223 hg w26 hbox hb; replace HB := Aside0.mk (below_step (zz37 HI0 GE219) hb); have BK223 := Aside0.mk hbox; have GW223 := Aside0.mk (zz40 GW219 : w.heap.size ≤ gb223); have GE223 := Aside0.mk (Nat.le_trans HW0.out (zz40 GW219 : w.heap.size ≤ gb223) : w0.heap.size ≤ gb223); replace HK := Aside0.mk (KeepBut.trans (zz38 GW219) (KeepBut.of_below hb g none) (.inl rfl)); have NB219_223 := Aside0.mk (by rw [hg]; exact Nat.ne_of_lt (blk_lt (g := gb219) (o := .cells #[.int .i64 0, .int .i64 0] 32 (0, 0)) (zz5 BK219)) : gb219 ≠ gb223); have NB223_219 := Aside0.mk (by rw [hg]; exact Nat.ne_of_gt (blk_lt (g := gb219) (o := .cells #[.int .i64 0, .int .i64 0] 32 (0, 0)) (zz5 BK219)) : gb223 ≠ gb219); replace BK219 := Aside0.mk (blk_below (g := gb219) (o := .cells #[.int .i64 0, .int .i64 0] 32 (0, 0)) (zz5 BK219) hb); have NB0_223 := Aside0.mk (by rw [hg]; exact Nat.ne_of_lt (IsS64.lt (show IsS64 w0 _ g s0_0 t222 from zz36 HI0 NB0_219)) : g ≠ gb223); have NB223_0 := Aside0.mk (by rw [hg]; exact Nat.ne_of_gt (IsS64.lt (show IsS64 w0 _ g s0_0 t222 from zz36 HI0 NB0_219)) : gb223 ≠ g); replace HI0 := Aside0.mk (IsS64.below (zz36 HI0 NB0_219) hb); clear hb hbox hg; have hnb27 := NB223_219.out; have hnc27 := NB219_223.out; have hnb28 := NB223_0.out; have hnc28 := NB0_223.out; have hcz29_0 : w26.cell? ⟨gb223, 0, none⟩ = some (.int .i64 0) := (blk_cell BK223.out 0).trans rfl; have hcz29_1 : w26.cell? ⟨gb223, 1, none⟩ = some (.int .i64 0) := (blk_cell BK223.out 1).trans rfl; have hfz29_0 := blk_frozen BK223.out 0; have hfz29_1 := blk_frozen BK223.out 1) | (refine gc (some 7) Tryz.func28 #[.pointer (some ⟨g, 0, none⟩), .int .i64 16] ?_; (with_reducible refine (spec_l1Rd_pick.calls k g s0_0 t222 16 t224 t225 w0 _ ?side1 ?side2 A3.out).mono ?_); (case side1 => exact zz41 HI0 NB0_219 NB0_223); (case side2 => exact zz42 HI0 GE219 GE223); rintro e w30 ⟨rfl, hi, hb, hk⟩; refine ⟨_, rfl, ?_⟩; replace BK219 := Aside0.mk (KeepBut.blk hk (g' := gb219) (o := .cells #[.int .i64 0, .int .i64 0] 32 (0, 0)) (zz43 NB219_223 BK219) NB219_0.out (by simp)); replace BK223 := Aside0.mk (KeepBut.blk hk (g' := gb223) (o := .cells #[.int .i64 t220, .int .i64 t221] 32 (0, 0)) (by (with_reducible repeat (first | refine blk_drewN ?_ _ | refine blk_drew ?_ | refine blk_alloc ?_ _)); refine blk_put (cs := #[.int .i64 t220, .int .i64 0]) ?_ 1 _ rfl; (with_reducible repeat (first | refine blk_drewN ?_ _ | refine blk_drew ?_ | refine blk_alloc ?_ _)); refine blk_put (cs := #[.int .i64 0, .int .i64 0]) ?_ 0 _ rfl; (with_reducible repeat (first | refine blk_drewN ?_ _ | refine blk_drew ?_ | refine blk_alloc ?_ _)); exact BK223.out) NB223_0.out (by simp)); replace HK := Aside0.mk (KeepBut.trans (zz44 GW219 GW223) hk (.inl rfl)); replace HB := Aside0.mk hb; replace HI0 := Aside0.mk hi; clear hb hk hi) | (refine gt 20 ?_; refine rl (Kd.int .i64) 3 20 ([(-1), 33, 0, 32] : List Int) [.int .i64 (-1), .int .i64 33, .int .i64 0, .int .i64 32] ?hp ?_; (case hp => exact (ro (ro (ro (ro (Reps.none _ _)))))); intro v232 w31 ho32 hb hg_ hnew_; clear hg_ hnew_; (first | rw [← Ny231.out] at ho32 | (simp only [Int.reduceToNat] at ho32; rw [← Ny231.out] at ho32)); have HO233 := Aside0.mk (Kd.R_lower ho32 (keep_size (w := w) (g := g) (row := none) (zz44 GW219 GW223))); replace BK219 := Aside0.mk (blk_below (g := gb219) (o := .cells #[.int .i64 0, .int .i64 0] 32 (0, 0)) (zz5 BK219) hb); replace BK223 := Aside0.mk (blk_below (g := gb223) (o := .cells #[.int .i64 t220, .int .i64 t221] 32 (0, 0)) (zz5 BK223) hb); replace HK := Aside0.mk (KeepBut.trans (zz44 GW219 GW223) (KeepBut.of_below hb g none) (.inl rfl)); replace HB := Aside0.mk (below_step (zz42 HI0 GE219 GE223) hb); replace HI0 := Aside0.mk (IsS64.below (zz41 HI0 NB0_219 NB0_223) hb); clear hb ho32; obtain ⟨Ao33, co33, eo33⟩ := Kd.R_slice HO233.out; subst eo33) | (refine gc (some 21) Tryz.func15 #[.pointer (some ⟨g, 0, none⟩), .slice Ao33 y231.length co33] ?_; (with_reducible refine (spec_l1Rd_one.calls k g s0_0 t225 _ _ y231 t234 t235 w0 _ ?side1 ?side2 ?side3 ?side4 ?side5 A23.out).mono ?_); (case side1 => exact zz41 HI0 NB0_219 NB0_223); (case side2 => exact zz42 HI0 GE219 GE223); (case side3 => exact zz31 HO233); (case side4 => exact zz33 HO233); (case side5 => exact zz34 HI0 HO233); rintro e w34 ⟨rfl, hi, hb, hk⟩; refine ⟨_, rfl, ?_⟩; replace BK219 := Aside0.mk (KeepBut.blk hk (g' := gb219) (o := .cells #[.int .i64 0, .int .i64 0] 32 (0, 0)) (zz5 BK219) NB219_0.out (by simp)); replace BK223 := Aside0.mk (KeepBut.blk hk (g' := gb223) (o := .cells #[.int .i64 t220, .int .i64 t221] 32 (0, 0)) (zz5 BK223) NB223_0.out (by simp)); replace HO233 := Aside0.mk (Kd.R_mono (Kd.R_keep (IsS64.apart (show IsS64 w0 _ g s0_0 t225 from zz41 HI0 NB0_219 NB0_223) (zz22 HO233) (by decide)) hk (fun _ h => h.2)) (fun _ h => h.1)); replace HK := Aside0.mk (KeepBut.trans (zz44 GW219 GW223) hk (.inl rfl)); replace HB := Aside0.mk hb; replace HI0 := Aside0.mk hi; clear hb hk hi; have hcz35_0 : w34.cell? ⟨gb223, 0, none⟩ = some (.int .i64 t220) := (blk_cell BK223.out 0).trans rfl; have hcz35_1 : w34.cell? ⟨gb223, 1, none⟩ = some (.int .i64 t221) := (blk_cell BK223.out 1).trans rfl; have hfz35_0 := blk_frozen BK223.out 0; have hfz35_1 := blk_frozen BK223.out 1; have hnb36 := NB219_0.out; have hnc36 := NB0_219.out; have hcz37_0 : w34.cell? ⟨gb219, 0, none⟩ = some (.int .i64 0) := (blk_cell BK219.out 0).trans rfl; have hcz37_1 : w34.cell? ⟨gb219, 1, none⟩ = some (.int .i64 0) := (blk_cell BK219.out 1).trans rfl; have hfz37_0 := blk_frozen BK219.out 0; have hfz37_1 := blk_frozen BK219.out 1))
   refine bodyPost_ret (results_cell_row rfl _ _ gb219 32 #[.int .i64 t220, .int .i64 t234] (0, 0) _ rfl (by (with_reducible repeat (first | refine blk_drewN ?_ _ | refine blk_drew ?_ | refine blk_alloc ?_ _)); refine blk_put (cs := #[.int .i64 t220, .int .i64 0]) ?_ 1 _ rfl; (with_reducible repeat (first | refine blk_drewN ?_ _ | refine blk_drew ?_ | refine blk_alloc ?_ _)); refine blk_put (cs := #[.int .i64 0, .int .i64 0]) ?_ 0 _ rfl; (with_reducible repeat (first | refine blk_drewN ?_ _ | refine blk_drew ?_ | refine blk_alloc ?_ _)); refine blk_far ?_ NB219_223.out _; (with_reducible repeat (first | refine blk_drewN ?_ _ | refine blk_drew ?_ | refine blk_alloc ?_ _)); exact BK219.out) Tryz.underlying32 rfl (by kernel_rfl)) rfl ?_
   exact ⟨zz13, zz41 HI0 NB0_219 NB0_223, zz42 HI0 GE219 GE223, zz44 GW219 GW223⟩
  ·rw [if_neg c22] at H
   have c22b0 : (t224 == 1) = false := beq_eq_false_iff_ne.mpr c22
   have c22b1 : (t224 != 1) = true := bne_iff_ne.mpr c22
   simp only [Option.some.injEq, Prod.mk.injEq] at H
   obtain ⟨rfl, rfl, rfl⟩ := H
   go_enter Tryz.func39, Tryz.ntmps39
   go_wp2_with (first | (refine be 2 #[.int .i64 0, .int .i64 0] 32 ?_; intro gb219 hg w38 hbox hb; replace HB := Aside0.mk (below_step (zz12 HI0) hb); have BK219 := Aside0.mk hbox; have GW219 := Aside0.mk (zz35 : w.heap.size ≤ gb219); have GE219 := Aside0.mk (Nat.le_trans HW0.out (zz35 : w.heap.size ≤ gb219) : w0.heap.size ≤ gb219); replace HK := Aside0.mk (KeepBut.trans zz11 (KeepBut.of_below hb g none) (.inl rfl)); have NB0_219 := Aside0.mk (by rw [hg]; exact Nat.ne_of_lt (IsS64.lt (show IsS64 w0 _ g s0_0 s0_1 from zz10 HI0)) : g ≠ gb219); have NB219_0 := Aside0.mk (by rw [hg]; exact Nat.ne_of_gt (IsS64.lt (show IsS64 w0 _ g s0_0 s0_1 from zz10 HI0)) : gb219 ≠ g); replace HI0 := Aside0.mk (IsS64.below (zz10 HI0) hb); clear hb hbox hg) | (refine gc (some 5) Tryz.func57 #[.pointer (some ⟨g, 0, none⟩)] ?_; (with_reducible refine (spec_l12Block.calls k g s0_0 s0_1 t220 t221 t222 w0 _ ?side1 ?side2 A2.out).mono ?_); (case side1 => exact zz36 HI0 NB0_219); (case side2 => exact zz37 HI0 GE219); rintro e w39 ⟨rfl, hi, hb, hk⟩; refine ⟨_, rfl, ?_⟩; replace BK219 := Aside0.mk (KeepBut.blk hk (g' := gb219) (o := .cells #[.int .i64 0, .int .i64 0] 32 (0, 0)) (zz5 BK219) NB219_0.out (by simp)); replace HK := Aside0.mk (KeepBut.trans (zz38 GW219) hk (.inl rfl)); replace HB := Aside0.mk hb; replace HI0 := Aside0.mk hi; clear hb hk hi) | (refine be 3 #[.int .i64 0, .int .i64 0] 32 ?_; intro gb223 hg w40 hbox hb; replace HB := Aside0.mk (below_step (zz37 HI0 GE219) hb); have BK223 := Aside0.mk hbox; have GW223 := Aside0.mk (zz40 GW219 : w.heap.size ≤ gb223); have GE223 := Aside0.mk (Nat.le_trans HW0.out (zz40 GW219 : w.heap.size ≤ gb223) : w0.heap.size ≤ gb223); replace HK := Aside0.mk (KeepBut.trans (zz38 GW219) (KeepBut.of_below hb g none) (.inl rfl)); have NB219_223 := Aside0.mk (by rw [hg]; exact Nat.ne_of_lt (blk_lt (g := gb219) (o := .cells #[.int .i64 0, .int .i64 0] 32 (0, 0)) (zz5 BK219)) : gb219 ≠ gb223); have NB223_219 := Aside0.mk (by rw [hg]; exact Nat.ne_of_gt (blk_lt (g := gb219) (o := .cells #[.int .i64 0, .int .i64 0] 32 (0, 0)) (zz5 BK219)) : gb223 ≠ gb219); replace BK219 := Aside0.mk (blk_below (g := gb219) (o := .cells #[.int .i64 0, .int .i64 0] 32 (0, 0)) (zz5 BK219) hb); have NB0_223 := Aside0.mk (by rw [hg]; exact Nat.ne_of_lt (IsS64.lt (show IsS64 w0 _ g s0_0 t222 from zz36 HI0 NB0_219)) : g ≠ gb223); have NB223_0 := Aside0.mk (by rw [hg]; exact Nat.ne_of_gt (IsS64.lt (show IsS64 w0 _ g s0_0 t222 from zz36 HI0 NB0_219)) : gb223 ≠ g); replace HI0 := Aside0.mk (IsS64.below (zz36 HI0 NB0_219) hb); clear hb hbox hg; have hnb41 := NB223_219.out; have hnc41 := NB219_223.out; have hnb42 := NB223_0.out; have hnc42 := NB0_223.out; have hcz43_0 : w40.cell? ⟨gb223, 0, none⟩ = some (.int .i64 0) := (blk_cell BK223.out 0).trans rfl; have hcz43_1 : w40.cell? ⟨gb223, 1, none⟩ = some (.int .i64 0) := (blk_cell BK223.out 1).trans rfl; have hfz43_0 := blk_frozen BK223.out 0; have hfz43_1 := blk_frozen BK223.out 1) | (refine gc (some 7) Tryz.func28 #[.pointer (some ⟨g, 0, none⟩), .int .i64 16] ?_; (with_reducible refine (spec_l1Rd_pick.calls k g s0_0 t222 16 t224 t225 w0 _ ?side1 ?side2 A3.out).mono ?_); (case side1 => exact zz41 HI0 NB0_219 NB0_223); (case side2 => exact zz42 HI0 GE219 GE223); rintro e w44 ⟨rfl, hi, hb, hk⟩; refine ⟨_, rfl, ?_⟩; replace BK219 := Aside0.mk (KeepBut.blk hk (g' := gb219) (o := .cells #[.int .i64 0, .int .i64 0] 32 (0, 0)) (zz43 NB219_223 BK219) NB219_0.out (by simp)); replace BK223 := Aside0.mk (KeepBut.blk hk (g' := gb223) (o := .cells #[.int .i64 t220, .int .i64 t221] 32 (0, 0)) (by (with_reducible repeat (first | refine blk_drewN ?_ _ | refine blk_drew ?_ | refine blk_alloc ?_ _)); refine blk_put (cs := #[.int .i64 t220, .int .i64 0]) ?_ 1 _ rfl; (with_reducible repeat (first | refine blk_drewN ?_ _ | refine blk_drew ?_ | refine blk_alloc ?_ _)); refine blk_put (cs := #[.int .i64 0, .int .i64 0]) ?_ 0 _ rfl; (with_reducible repeat (first | refine blk_drewN ?_ _ | refine blk_drew ?_ | refine blk_alloc ?_ _)); exact BK223.out) NB223_0.out (by simp)); replace HK := Aside0.mk (KeepBut.trans (zz44 GW219 GW223) hk (.inl rfl)); replace HB := Aside0.mk hb; replace HI0 := Aside0.mk hi; clear hb hk hi; have hcz45_0 : w44.cell? ⟨gb223, 0, none⟩ = some (.int .i64 t220) := (blk_cell BK223.out 0).trans rfl; have hcz45_1 : w44.cell? ⟨gb223, 1, none⟩ = some (.int .i64 t221) := (blk_cell BK223.out 1).trans rfl; have hfz45_0 := blk_frozen BK223.out 0; have hfz45_1 := blk_frozen BK223.out 1; have hnb46 := NB219_0.out; have hnc46 := NB0_219.out; have hcz47_0 : w44.cell? ⟨gb219, 0, none⟩ = some (.int .i64 0) := (blk_cell BK219.out 0).trans rfl; have hcz47_1 : w44.cell? ⟨gb219, 1, none⟩ = some (.int .i64 0) := (blk_cell BK219.out 1).trans rfl; have hfz47_0 := blk_frozen BK219.out 0; have hfz47_1 := blk_frozen BK219.out 1))
   refine bodyPost_ret (results_cell_row rfl _ _ gb219 32 #[.int .i64 t220, .int .i64 t221] (0, 0) _ rfl (by (with_reducible repeat (first | refine blk_drewN ?_ _ | refine blk_drew ?_ | refine blk_alloc ?_ _)); refine blk_put (cs := #[.int .i64 t220, .int .i64 0]) ?_ 1 _ rfl; (with_reducible repeat (first | refine blk_drewN ?_ _ | refine blk_drew ?_ | refine blk_alloc ?_ _)); refine blk_put (cs := #[.int .i64 0, .int .i64 0]) ?_ 0 _ rfl; (with_reducible repeat (first | refine blk_drewN ?_ _ | refine blk_drew ?_ | refine blk_alloc ?_ _)); exact BK219.out) Tryz.underlying32 rfl (by kernel_rfl)) rfl ?_
   exact ⟨zz13, zz41 HI0 NB0_219 NB0_223, zz42 HI0 GE219 GE223, zz44 GW219 GW223⟩
def spec_l12AnyWays.f (k : Nat) (s0_0 : List Int) (s0_1 : Int) : Option ((List (S34)) × Int) := (spec_l12Ways.f k s0_0 s0_1).bind fun bt236 => (if (bt236.1.length : Int) = 0 then (some (bt236.1, bt236.2)) else ((spec_l1Rd_pick.f k s0_0 bt236.2 (bt236.1.length : Int)).bind fun bt240 => ((spec_l1Rd_pick.f k s0_0 bt240.2 20).bind fun bt242 => (if bt242.1 = 0 then ((spec_l1Rd_one.f k s0_0 bt242.2 (([(-1), 99, 100] : List Int))).bind fun bt247 => (if 0 ≤ bt240.1 then (if bt240.1 < (bt236.1.length : Int) then (some ((bt236.1.set (bt240.1 : Int).toNat (⟨(⟨(rd_T34 bt236.1 bt240.1).f0.f0, (rd_T34 bt236.1 bt240.1).f0.f1⟩ : S32), bt247.1⟩ : S34)), bt247.2)) else (none)) else (none))) else (if bt242.1 = 1 then ((spec_l12AnyBlock.f k s0_0 bt242.2).bind fun bt250 => (if 0 ≤ bt240.1 then (if bt240.1 < (bt236.1.length : Int) then (some ((bt236.1.set (bt240.1 : Int).toNat (⟨(⟨bt250.1, bt250.2.1⟩ : S32), (rd_T34 bt236.1 bt240.1).f1⟩ : S34)), bt250.2.2)) else (none)) else (none))) else (if bt242.1 = 2 then (if 0 < (bt236.1.length : Int) then (if bt236.1.length < 5864062014805 then (some ((bt236.1 ++ [(⟨(⟨(rd_T34 bt236.1 0).f0.f0, (rd_T34 bt236.1 0).f0.f1⟩ : S32), (rd_T34 bt236.1 0).f1⟩ : S34)]), bt242.2)) else (none)) else (none)) else (some (bt236.1, bt242.2))))))))
set_option maxHeartbeats 8000000 in
set_option maxRecDepth 100000 in
theorem spec_l12AnyWays.calls (k : Nat) (g : Nat) (s0_0 : List Int) (s0_1 : Int) (r1 : List (S34)) (r2 : Int) (w0 w : World) (hI : IsS64 w0 w g s0_0 s0_1) (hB : Below w0.heap.size w0 w) (h : spec_l12AnyWays.f k s0_0 s0_1 = some (r1, r2)) :
  Calls Tryz.prog 14 #[.pointer (some ⟨g, 0, none⟩)] w fun e w' => ∃ v0_ : Value, e = .returned (v0_) ∧ Kd.R k34 34 w' w.heap.size (fun _ => True) v0_ r1 ∧ IsS64 w0 w' g s0_0 r2 ∧ Below w0.heap.size w0 w' ∧ KeepBut w w' g none := by
 have hu32 := Tryz.underlying32
 have hu34 := Tryz.underlying34
 have HI0 := Aside0.mk hI
 have HK := Aside0.mk (KeepBut.refl w g none)
 have HL := Aside0.mk hB.size
 clear hI
 have HW0 := Aside0.mk hB.size
 have HB := Aside0.mk hB
 clear hB
 have H : ((spec_l12Ways.f k s0_0 s0_1).bind fun bt236 => (if (bt236.1.length : Int) = 0 then (some (bt236.1, bt236.2)) else ((spec_l1Rd_pick.f k s0_0 bt236.2 (bt236.1.length : Int)).bind fun bt240 => ((spec_l1Rd_pick.f k s0_0 bt240.2 20).bind fun bt242 => (if bt242.1 = 0 then ((spec_l1Rd_one.f k s0_0 bt242.2 (([(-1), 99, 100] : List Int))).bind fun bt247 => (if 0 ≤ bt240.1 then (if bt240.1 < (bt236.1.length : Int) then (some ((bt236.1.set (bt240.1 : Int).toNat (⟨(⟨(rd_T34 bt236.1 bt240.1).f0.f0, (rd_T34 bt236.1 bt240.1).f0.f1⟩ : S32), bt247.1⟩ : S34)), bt247.2)) else (none)) else (none))) else (if bt242.1 = 1 then ((spec_l12AnyBlock.f k s0_0 bt242.2).bind fun bt250 => (if 0 ≤ bt240.1 then (if bt240.1 < (bt236.1.length : Int) then (some ((bt236.1.set (bt240.1 : Int).toNat (⟨(⟨bt250.1, bt250.2.1⟩ : S32), (rd_T34 bt236.1 bt240.1).f1⟩ : S34)), bt250.2.2)) else (none)) else (none))) else (if bt242.1 = 2 then (if 0 < (bt236.1.length : Int) then (if bt236.1.length < 5864062014805 then (some ((bt236.1 ++ [(⟨(⟨(rd_T34 bt236.1 0).f0.f0, (rd_T34 bt236.1 0).f0.f1⟩ : S32), (rd_T34 bt236.1 0).f1⟩ : S34)]), bt242.2)) else (none)) else (none)) else (some (bt236.1, bt242.2))))))))) = some (r1, r2) := h
 clear h
 replace H := bd H
 obtain ⟨⟨t236, t239⟩, A2, H⟩ := H
 replace H : (if (t236.length : Int) = 0 then (some (t236, t239)) else ((spec_l1Rd_pick.f k s0_0 t239 (t236.length : Int)).bind fun bt240 => ((spec_l1Rd_pick.f k s0_0 bt240.2 20).bind fun bt242 => (if bt242.1 = 0 then ((spec_l1Rd_one.f k s0_0 bt242.2 (([(-1), 99, 100] : List Int))).bind fun bt247 => (if 0 ≤ bt240.1 then (if bt240.1 < (t236.length : Int) then (some ((t236.set (bt240.1 : Int).toNat (⟨(⟨(rd_T34 t236 bt240.1).f0.f0, (rd_T34 t236 bt240.1).f0.f1⟩ : S32), bt247.1⟩ : S34)), bt247.2)) else (none)) else (none))) else (if bt242.1 = 1 then ((spec_l12AnyBlock.f k s0_0 bt242.2).bind fun bt250 => (if 0 ≤ bt240.1 then (if bt240.1 < (t236.length : Int) then (some ((t236.set (bt240.1 : Int).toNat (⟨(⟨bt250.1, bt250.2.1⟩ : S32), (rd_T34 t236 bt240.1).f1⟩ : S34)), bt250.2.2)) else (none)) else (none))) else (if bt242.1 = 2 then (if 0 < (t236.length : Int) then (if t236.length < 5864062014805 then (some ((t236 ++ [(⟨(⟨(rd_T34 t236 0).f0.f0, (rd_T34 t236 0).f0.f1⟩ : S32), (rd_T34 t236 0).f1⟩ : S34)]), bt242.2)) else (none)) else (none)) else (some (t236, bt242.2)))))))) = some (r1, r2) := H
 by_cases c3 : (t236.length : Int) = 0
 ·rw [if_pos c3] at H
  have c3b0 : ((t236.length : Int) == 0) = true := beq_iff_eq.mpr c3
  have c3b1 : ((t236.length : Int) != 0) = false := bne_eq_false_iff_eq.mpr c3
  clear c3
  simp only [Option.some.injEq, Prod.mk.injEq] at H
  obtain ⟨rfl, rfl⟩ := H
  go_enter Tryz.func14, Tryz.ntmps14
  go_wp2_with (first | (refine gc (some 6) Tryz.func38 #[.pointer (some ⟨g, 0, none⟩)] ?_; (with_reducible refine (spec_l12Ways.calls k g s0_0 s0_1 t236 t239 w0 _ ?side1 ?side2 A2.out).mono ?_); (case side1 => exact zz10 HI0); (case side2 => exact zz12 HI0); rintro e w4 ⟨v237, rfl, ho0, hi, hb, hk⟩; refine ⟨_, rfl, ?_⟩; have HO238 := Aside0.mk (Kd.R_lower ho0 (keep_size (w := w) (g := g) (row := none) zz11)); replace HK := Aside0.mk (KeepBut.trans zz11 hk (.inl rfl)); replace HB := Aside0.mk hb; replace HI0 := Aside0.mk hi; clear hb hk hi ho0; obtain ⟨Ao5, co5, eo5⟩ := Kd.R_slice HO238.out; subst eo5))
  go_ret
  exact ⟨_, zz13, zz22 HO238, zz10 HI0, zz12 HI0, zz11⟩
 ·rw [if_neg c3] at H
  have c3b0 : ((t236.length : Int) == 0) = false := beq_eq_false_iff_ne.mpr c3
  have c3b1 : ((t236.length : Int) != 0) = true := bne_iff_ne.mpr c3
  have c3b2 : ¬ (t236 = []) := fun h_ => c3 (by rw [h_]; rfl)
  replace H := bd H
  obtain ⟨⟨t240, t241⟩, A6, H⟩ := H
  replace H : ((spec_l1Rd_pick.f k s0_0 t241 20).bind fun bt242 => (if bt242.1 = 0 then ((spec_l1Rd_one.f k s0_0 bt242.2 (([(-1), 99, 100] : List Int))).bind fun bt247 => (if 0 ≤ t240 then (if t240 < (t236.length : Int) then (some ((t236.set (t240 : Int).toNat (⟨(⟨(rd_T34 t236 t240).f0.f0, (rd_T34 t236 t240).f0.f1⟩ : S32), bt247.1⟩ : S34)), bt247.2)) else (none)) else (none))) else (if bt242.1 = 1 then ((spec_l12AnyBlock.f k s0_0 bt242.2).bind fun bt250 => (if 0 ≤ t240 then (if t240 < (t236.length : Int) then (some ((t236.set (t240 : Int).toNat (⟨(⟨bt250.1, bt250.2.1⟩ : S32), (rd_T34 t236 t240).f1⟩ : S34)), bt250.2.2)) else (none)) else (none))) else (if bt242.1 = 2 then (if 0 < (t236.length : Int) then (if t236.length < 5864062014805 then (some ((t236 ++ [(⟨(⟨(rd_T34 t236 0).f0.f0, (rd_T34 t236 0).f0.f1⟩ : S32), (rd_T34 t236 0).f1⟩ : S34)]), bt242.2)) else (none)) else (none)) else (some (t236, bt242.2)))))) = some (r1, r2) := H
  replace H := bd H
  obtain ⟨⟨t242, t243⟩, A7, H⟩ := H
  replace H : (if t242 = 0 then ((spec_l1Rd_one.f k s0_0 t243 (([(-1), 99, 100] : List Int))).bind fun bt247 => (if 0 ≤ t240 then (if t240 < (t236.length : Int) then (some ((t236.set (t240 : Int).toNat (⟨(⟨(rd_T34 t236 t240).f0.f0, (rd_T34 t236 t240).f0.f1⟩ : S32), bt247.1⟩ : S34)), bt247.2)) else (none)) else (none))) else (if t242 = 1 then ((spec_l12AnyBlock.f k s0_0 t243).bind fun bt250 => (if 0 ≤ t240 then (if t240 < (t236.length : Int) then (some ((t236.set (t240 : Int).toNat (⟨(⟨bt250.1, bt250.2.1⟩ : S32), (rd_T34 t236 t240).f1⟩ : S34)), bt250.2.2)) else (none)) else (none))) else (if t242 = 2 then (if 0 < (t236.length : Int) then (if t236.length < 5864062014805 then (some ((t236 ++ [(⟨(⟨(rd_T34 t236 0).f0.f0, (rd_T34 t236 0).f0.f1⟩ : S32), (rd_T34 t236 0).f1⟩ : S34)]), t243)) else (none)) else (none)) else (some (t236, t243))))) = some (r1, r2) := H
  by_cases c8 : t242 = 0
  ·rw [if_pos c8] at H
   have c8b0 : (t242 == 0) = true := beq_iff_eq.mpr c8
   have c8b1 : (t242 != 0) = false := bne_eq_false_iff_eq.mpr c8
   clear c8
   obtain ⟨y244, hy244⟩ : ∃ y_ : List Int, y_ = (([(-1), 99, 100] : List Int)) := ⟨_, rfl⟩
   replace H : ((spec_l1Rd_one.f k s0_0 t243 y244).bind fun bt247 => (if 0 ≤ t240 then (if t240 < (t236.length : Int) then (some ((t236.set (t240 : Int).toNat (⟨(⟨(rd_T34 t236 t240).f0.f0, (rd_T34 t236 t240).f0.f1⟩ : S32), bt247.1⟩ : S34)), bt247.2)) else (none)) else (none))) = some (r1, r2) := by first | (rw [hy244]; with_reducible exact H) | (have H2_ := (Option.bind_some _ _).symm.trans H; rw [hy244]; with_reducible exact H2_) | (have H2_ := (Option.bind_some _ _).symm.trans H; with_reducible exact H2_) | with_reducible exact H | (rw [hy244]; exact H) | exact H
   have Ny244 := Aside0.mk hy244
   clear hy244
   replace H := bd H
   obtain ⟨⟨t247, t248⟩, A9, H⟩ := H
   replace H : (if 0 ≤ t240 then (if t240 < (t236.length : Int) then (some ((t236.set (t240 : Int).toNat (⟨(⟨(rd_T34 t236 t240).f0.f0, (rd_T34 t236 t240).f0.f1⟩ : S32), t247⟩ : S34)), t248)) else (none)) else (none)) = some (r1, r2) := H
   replace H := gd H
   obtain ⟨c10b0, H⟩ := H
   replace H := gd H
   obtain ⟨c11b0, H⟩ := H
   obtain ⟨y249, hy249⟩ : ∃ y_ : List (S34), y_ = (t236.set (t240 : Int).toNat (⟨(⟨(rd_T34 t236 t240).f0.f0, (rd_T34 t236 t240).f0.f1⟩ : S32), t247⟩ : S34)) := ⟨_, rfl⟩
   replace H : (some (y249, t248)) = some (r1, r2) := by first | (rw [hy249]; with_reducible exact H) | (have H2_ := (Option.bind_some _ _).symm.trans H; rw [hy249]; with_reducible exact H2_) | (have H2_ := (Option.bind_some _ _).symm.trans H; with_reducible exact H2_) | with_reducible exact H | (rw [hy249]; exact H) | exact H
   have Ny249 := Aside0.mk hy249
   clear hy249
   simp only [Option.some.injEq, Prod.mk.injEq] at H
   obtain ⟨rfl, rfl⟩ := H
   go_enter Tryz.func14, Tryz.ntmps14
   go_wp2_with (first | (refine gc (some 6) Tryz.func38 #[.pointer (some ⟨g, 0, none⟩)] ?_; (with_reducible refine (spec_l12Ways.calls k g s0_0 s0_1 t236 t239 w0 _ ?side1 ?side2 A2.out).mono ?_); (case side1 => exact zz10 HI0); (case side2 => exact zz12 HI0); rintro e w13 ⟨v237, rfl, ho0, hi, hb, hk⟩; refine ⟨_, rfl, ?_⟩; have HO238 := Aside0.mk (Kd.R_lower ho0 (keep_size (w := w) (g := g) (row := none) zz11)); replace HK := Aside0.mk (KeepBut.trans zz11 hk (.inl rfl)); replace HB := Aside0.mk hb; replace HI0 := Aside0.mk hi; clear hb hk hi ho0; obtain ⟨Ao14, co14, eo14⟩ := Kd.R_slice HO238.out; subst eo14) | (refine gc (some 14) Tryz.func28 #[.pointer (some ⟨g, 0, none⟩), .int .i64 (t236.length : Int)] ?_; (with_reducible refine (spec_l1Rd_pick.calls k g s0_0 t239 (t236.length : Int) t240 t241 w0 _ ?side1 ?side2 A6.out).mono ?_); (case side1 => exact zz10 HI0); (case side2 => exact zz12 HI0); rintro e w15 ⟨rfl, hi, hb, hk⟩; refine ⟨_, rfl, ?_⟩; replace HO238 := Aside0.mk (Kd.R_mono (Kd.R_keep (IsS64.apart (show IsS64 w0 _ g s0_0 t239 from zz10 HI0) (zz22 HO238) (by decide)) hk (fun _ h => h.2)) (fun _ h => h.1)); replace HK := Aside0.mk (KeepBut.trans zz11 hk (.inl rfl)); replace HB := Aside0.mk hb; replace HI0 := Aside0.mk hi; clear hb hk hi) | (refine gc (some 16) Tryz.func28 #[.pointer (some ⟨g, 0, none⟩), .int .i64 20] ?_; (with_reducible refine (spec_l1Rd_pick.calls k g s0_0 t241 20 t242 t243 w0 _ ?side1 ?side2 A7.out).mono ?_); (case side1 => exact zz10 HI0); (case side2 => exact zz12 HI0); rintro e w16 ⟨rfl, hi, hb, hk⟩; refine ⟨_, rfl, ?_⟩; replace HO238 := Aside0.mk (Kd.R_mono (Kd.R_keep (IsS64.apart (show IsS64 w0 _ g s0_0 t241 from zz10 HI0) (zz22 HO238) (by decide)) hk (fun _ h => h.2)) (fun _ h => h.1)); replace HK := Aside0.mk (KeepBut.trans zz11 hk (.inl rfl)); replace HB := Aside0.mk hb; replace HI0 := Aside0.mk hi; clear hb hk hi) | (refine gt 22 ?_; refine rl (Kd.int .i64) 3 22 ([(-1), 99, 100] : List Int) [.int .i64 (-1), .int .i64 99, .int .i64 100] ?hp ?_; (case hp => exact (ro (ro (ro (Reps.none _ _))))); intro v245 w17 ho18 hb hg_ hnew_; clear hg_ hnew_; (first | rw [← Ny244.out] at ho18 | (simp only [Int.reduceToNat] at ho18; rw [← Ny244.out] at ho18)); replace HO238 := Aside0.mk (Kd.R_below (zz22 HO238) hb); have HO246 := Aside0.mk (Kd.R_lower ho18 (keep_size (w := w) (g := g) (row := none) zz11)); replace HK := Aside0.mk (KeepBut.trans zz11 (KeepBut.of_below hb g none) (.inl rfl)); replace HB := Aside0.mk (below_step (zz12 HI0) hb); replace HI0 := Aside0.mk (IsS64.below (zz10 HI0) hb); clear hb ho18; obtain ⟨Ao19, co19, eo19⟩ := Kd.R_slice HO246.out; subst eo19) | (refine gc (some 23) Tryz.func15 #[.pointer (some ⟨g, 0, none⟩), .slice Ao19 y244.length co19] ?_; (with_reducible refine (spec_l1Rd_one.calls k g s0_0 t243 _ _ y244 t247 t248 w0 _ ?side1 ?side2 ?side3 ?side4 ?side5 A9.out).mono ?_); (case side1 => exact zz10 HI0); (case side2 => exact zz12 HI0); (case side3 => exact zz31 HO246); (case side4 => exact zz33 HO246); (case side5 => exact zz34 HI0 HO246); rintro e w20 ⟨rfl, hi, hb, hk⟩; refine ⟨_, rfl, ?_⟩; replace HO238 := Aside0.mk (Kd.R_mono (Kd.R_keep (IsS64.apart (show IsS64 w0 _ g s0_0 t243 from zz10 HI0) (zz22 HO238) (by decide)) hk (fun _ h => h.2)) (fun _ h => h.1)); replace HO246 := Aside0.mk (Kd.R_mono (Kd.R_keep (IsS64.apart (show IsS64 w0 _ g s0_0 t243 from zz10 HI0) (zz22 HO246) (by decide)) hk (fun _ h => h.2)) (fun _ h => h.1)); replace HK := Aside0.mk (KeepBut.trans zz11 hk (.inl rfl)); replace HB := Aside0.mk hb; replace HI0 := Aside0.mk hi; clear hb hk hi; have p12 : 0 ≤ (t240 : Int) := of_decide_eq_true zz2; have q12 : (t240 : Int) < ((t236.length : Int) : Int) := of_decide_eq_true zz2; obtain ⟨go12, co12, eo12, gb12, gl12, cl12, HG12⟩ := Kd.R_form HO238.out (by omega); (first | cases eo12 | (injection eo12 with ea_ en_ ec_; (first | subst ea_ | (injection ea_ with ea_; subst ea_)); subst ec_; clear en_)); have GB12 := Aside0.mk gb12; have GG12 := Aside0.mk HG12; clear gb12 gl12 HG12; obtain ⟨ce12, hcl12, hM12, hcc12, hfr12⟩ := Kd.R_elem HO238.out z34 (t240 : Int) p12 q12; obtain rfl := k34_openM hM12; have hx12_0 : w20.cell? ⟨go12, (t240 : Int).toNat * 3, none⟩ = some (.int .i64 ((rd_T34 t236 t240).f0.f0)) := hcc12 0 _ rfl; have hx12_1 : w20.cell? ⟨go12, (t240 : Int).toNat * 3 + 1, none⟩ = some (.int .i64 ((rd_T34 t236 t240).f0.f1)) := hcc12 1 _ rfl; have hx12_2 : w20.cell? ⟨go12, (t240 : Int).toNat * 3 + 2, none⟩ = some (.int .i64 ((rd_T34 t236 t240).f1)) := hcc12 2 _ rfl; have hf12_0 : w20.frozen? ⟨go12, (t240 : Int).toNat * 3, none⟩ = false := hfr12 0; have hf12_1 : w20.frozen? ⟨go12, (t240 : Int).toNat * 3 + 1, none⟩ = false := hfr12 1; have hf12_2 : w20.frozen? ⟨go12, (t240 : Int).toNat * 3 + 2, none⟩ = false := hfr12 2; clear hcl12 hcc12 hfr12 hM12; replace p12 := eq_true p12; replace q12 := eq_true q12; have HX21 := Aside0.mk (show Kd.R k34 34 w20 w.heap.size (fun _ => True) (.slice (some ⟨go12, 0, none⟩) t236.length co14) t236 from (zz22 HO238)); obtain ⟨ce21, hcl21, hM21, hcc21, hfr21⟩ := Kd.R_elem HX21.out z34 (t240 : Int) (of_decide_eq_true zz2) (by have h_ : (t240 : Int) < ((t236.length : Int) : Int) := of_decide_eq_true zz2; first | exact h_ | (have e_ := (Kd.R_reads' HO238.out).1; omega) | simpa using h_); obtain rfl := k34_openM hM21; have HP21 := Kd.R_seg HX21.out (t240 : Int) (of_decide_eq_true zz2) (by have h_ : (t240 : Int) < ((t236.length : Int) : Int) := of_decide_eq_true zz2; first | exact h_ | (have e_ := (Kd.R_reads' HO238.out).1; omega) | simpa using h_) (seg := [.int .i64 t247]) (j := 2) hcl21 hcc21 (show 3 ≤ 3 from by decide) (x' := (⟨(⟨(rd_T34 t236 t240).f0.f0, (rd_T34 t236 t240).f0.f1⟩ : S32), t247⟩ : S34)) (k34_mkM _ _ _ (⟨(⟨(rd_T34 t236 t240).f0.f0, (rd_T34 t236 t240).f0.f1⟩ : S32), t247⟩ : S34) ) (fun _ hk => hk); have hx21_2 := hcc21 2 _ rfl; (try simp only [show (k34).sz = 3 from rfl, Nat.mul_one, Nat.add_zero] at hx21_2); have hf21_2 := hfr21 2; (try simp only [show (k34).sz = 3 from rfl, Nat.mul_one, Nat.add_zero] at hf21_2); clear hcl21 hcc21 hfr21 hM21) | ((with_reducible refine gate_store (t := 3) (p := 25) rfl ?_); refine store_event (t := 3) (p := 25) (v := ?vo_w22) (w1 := (w20.setCell ⟨go12, (t240 : Int).toNat * 3 + 2, none⟩ (.int .i64 t247))) ?hg ?ho ?hn ?hr ?_; (case ho => rfl); (case hg => rfl); (case hn => rfl); (case hr => exact zz26); intro w22 hw; have hg : w20.grownBy w22 (some go12) := (by rw [hw]; exact HP21.2); have hp_ : Kd.R k34 34 w22 w.heap.size (fun _ => True) (.slice (some ⟨go12, 0, none⟩) t236.length co14) y249 := (by rw [hw, Ny249.out]; exact HP21.1); clear HP21; replace HI0 := Aside0.mk (IsS64.grown (zz10 HI0) hg (IsS64.own_ne HI0.out HO238.out (by decide))); replace HO246 := Aside0.mk (Kd.R_over' (v := (.slice (some ⟨go12, 0, none⟩) t236.length co14)) (zz22 HO246) (Kd.R_typed HO238.out) (by decide) hg); replace HB := Aside0.mk (by rw [hw]; exact below_set (HB.out) (Nat.le_trans HL.out GB12.out) : Below w0.heap.size w0 w22); replace HK := Aside0.mk (KeepBut.trans zz11 (KeepBut.of_grown hg g) (Kd.R_base2 HO238.out)); replace HO238 := Aside0.mk hp_; clear hg hw hp_))
   go_ret
   exact ⟨_, zz13, zz22 HO238, zz10 HI0, zz12 HI0, zz11⟩
  ·rw [if_neg c8] at H
   have c8b0 : (t242 == 0) = false := beq_eq_false_iff_ne.mpr c8
   have c8b1 : (t242 != 0) = true := bne_iff_ne.mpr c8
   by_cases c23 : t242 = 1
   ·rw [if_pos c23] at H
    have c23b0 : (t242 == 1) = true := beq_iff_eq.mpr c23
    have c23b1 : (t242 != 1) = false := bne_eq_false_iff_eq.mpr c23
    clear c23
    replace H := bd H
    obtain ⟨⟨t250, t251, t252⟩, A24, H⟩ := H
    replace H : (if 0 ≤ t240 then (if t240 < (t236.length : Int) then (some ((t236.set (t240 : Int).toNat (⟨(⟨t250, t251⟩ : S32), (rd_T34 t236 t240).f1⟩ : S34)), t252)) else (none)) else (none)) = some (r1, r2) := H
    replace H := gd H
    obtain ⟨c25b0, H⟩ := H
    replace H := gd H
    obtain ⟨c26b0, H⟩ := H
    obtain ⟨y253, hy253⟩ : ∃ y_ : List (S34), y_ = (t236.set (t240 : Int).toNat (⟨(⟨t250, t251⟩ : S32), (rd_T34 t236 t240).f1⟩ : S34)) := ⟨_, rfl⟩
    replace H : (some (y253, t252)) = some (r1, r2) := by first | (rw [hy253]; with_reducible exact H) | (have H2_ := (Option.bind_some _ _).symm.trans H; rw [hy253]; with_reducible exact H2_) | (have H2_ := (Option.bind_some _ _).symm.trans H; with_reducible exact H2_) | with_reducible exact H | (rw [hy253]; exact H) | exact H
    have Ny253 := Aside0.mk hy253
    clear hy253
    simp only [Option.some.injEq, Prod.mk.injEq] at H
    obtain ⟨rfl, rfl⟩ := H
    go_enter Tryz.func14, Tryz.ntmps14
    go_wp2_with (first | (refine gc (some 6) Tryz.func38 #[.pointer (some ⟨g, 0, none⟩)] ?_; (with_reducible refine (spec_l12Ways.calls k g s0_0 s0_1 t236 t239 w0 _ ?side1 ?side2 A2.out).mono ?_); (case side1 => exact zz10 HI0); (case side2 => exact zz12 HI0); rintro e w28 ⟨v237, rfl, ho0, hi, hb, hk⟩; refine ⟨_, rfl, ?_⟩; have HO238 := Aside0.mk (Kd.R_lower ho0 (keep_size (w := w) (g := g) (row := none) zz11)); replace HK := Aside0.mk (KeepBut.trans zz11 hk (.inl rfl)); replace HB := Aside0.mk hb; replace HI0 := Aside0.mk hi; clear hb hk hi ho0; obtain ⟨Ao29, co29, eo29⟩ := Kd.R_slice HO238.out; subst eo29) | (refine gc (some 14) Tryz.func28 #[.pointer (some ⟨g, 0, none⟩), .int .i64 (t236.length : Int)] ?_; (with_reducible refine (spec_l1Rd_pick.calls k g s0_0 t239 (t236.length : Int) t240 t241 w0 _ ?side1 ?side2 A6.out).mono ?_); (case side1 => exact zz10 HI0); (case side2 => exact zz12 HI0); rintro e w30 ⟨rfl, hi, hb, hk⟩; refine ⟨_, rfl, ?_⟩; replace HO238 := Aside0.mk (Kd.R_mono (Kd.R_keep (IsS64.apart (show IsS64 w0 _ g s0_0 t239 from zz10 HI0) (zz22 HO238) (by decide)) hk (fun _ h => h.2)) (fun _ h => h.1)); replace HK := Aside0.mk (KeepBut.trans zz11 hk (.inl rfl)); replace HB := Aside0.mk hb; replace HI0 := Aside0.mk hi; clear hb hk hi) | (refine gc (some 16) Tryz.func28 #[.pointer (some ⟨g, 0, none⟩), .int .i64 20] ?_; (with_reducible refine (spec_l1Rd_pick.calls k g s0_0 t241 20 t242 t243 w0 _ ?side1 ?side2 A7.out).mono ?_); (case side1 => exact zz10 HI0); (case side2 => exact zz12 HI0); rintro e w31 ⟨rfl, hi, hb, hk⟩; refine ⟨_, rfl, ?_⟩; replace HO238 := Aside0.mk (Kd.R_mono (Kd.R_keep (IsS64.apart (show IsS64 w0 _ g s0_0 t241 from zz10 HI0) (zz22 HO238) (by decide)) hk (fun _ h => h.2)) (fun _ h => h.1)); replace HK := Aside0.mk (KeepBut.trans zz11 hk (.inl rfl)); replace HB := Aside0.mk hb; replace HI0 := Aside0.mk hi; clear hb hk hi) | (refine gc (some 31) Tryz.func39 #[.pointer (some ⟨g, 0, none⟩)] ?_; (with_reducible refine (spec_l12AnyBlock.calls k g s0_0 t243 t250 t251 t252 w0 _ ?side1 ?side2 A24.out).mono ?_); (case side1 => exact zz10 HI0); (case side2 => exact zz12 HI0); rintro e w32 ⟨rfl, hi, hb, hk⟩; refine ⟨_, rfl, ?_⟩; replace HO238 := Aside0.mk (Kd.R_mono (Kd.R_keep (IsS64.apart (show IsS64 w0 _ g s0_0 t243 from zz10 HI0) (zz22 HO238) (by decide)) hk (fun _ h => h.2)) (fun _ h => h.1)); replace HK := Aside0.mk (KeepBut.trans zz11 hk (.inl rfl)); replace HB := Aside0.mk hb; replace HI0 := Aside0.mk hi; clear hb hk hi; have p27 : 0 ≤ (t240 : Int) := of_decide_eq_true zz2; have q27 : (t240 : Int) < ((t236.length : Int) : Int) := of_decide_eq_true zz2; obtain ⟨go27, co27, eo27, gb27, gl27, cl27, HG27⟩ := Kd.R_form HO238.out (by omega); (first | cases eo27 | (injection eo27 with ea_ en_ ec_; (first | subst ea_ | (injection ea_ with ea_; subst ea_)); subst ec_; clear en_)); have GB27 := Aside0.mk gb27; have GG27 := Aside0.mk HG27; clear gb27 gl27 HG27; obtain ⟨ce27, hcl27, hM27, hcc27, hfr27⟩ := Kd.R_elem HO238.out z34 (t240 : Int) p27 q27; obtain rfl := k34_openM hM27; have hx27_0 : w32.cell? ⟨go27, (t240 : Int).toNat * 3, none⟩ = some (.int .i64 ((rd_T34 t236 t240).f0.f0)) := hcc27 0 _ rfl; have hx27_1 : w32.cell? ⟨go27, (t240 : Int).toNat * 3 + 1, none⟩ = some (.int .i64 ((rd_T34 t236 t240).f0.f1)) := hcc27 1 _ rfl; have hx27_2 : w32.cell? ⟨go27, (t240 : Int).toNat * 3 + 2, none⟩ = some (.int .i64 ((rd_T34 t236 t240).f1)) := hcc27 2 _ rfl; have hf27_0 : w32.frozen? ⟨go27, (t240 : Int).toNat * 3, none⟩ = false := hfr27 0; have hf27_1 : w32.frozen? ⟨go27, (t240 : Int).toNat * 3 + 1, none⟩ = false := hfr27 1; have hf27_2 : w32.frozen? ⟨go27, (t240 : Int).toNat * 3 + 2, none⟩ = false := hfr27 2; clear hcl27 hcc27 hfr27 hM27; replace p27 := eq_true p27; replace q27 := eq_true q27; have HX33 := Aside0.mk (show Kd.R k34 34 w32 w.heap.size (fun _ => True) (.slice (some ⟨go27, 0, none⟩) t236.length co29) t236 from (zz22 HO238)); obtain ⟨ce33, hcl33, hM33, hcc33, hfr33⟩ := Kd.R_elem HX33.out z34 (t240 : Int) (of_decide_eq_true zz2) (by have h_ : (t240 : Int) < ((t236.length : Int) : Int) := of_decide_eq_true zz2; first | exact h_ | (have e_ := (Kd.R_reads' HO238.out).1; omega) | simpa using h_); obtain rfl := k34_openM hM33; have HP33 := Kd.R_seg HX33.out (t240 : Int) (of_decide_eq_true zz2) (by have h_ : (t240 : Int) < ((t236.length : Int) : Int) := of_decide_eq_true zz2; first | exact h_ | (have e_ := (Kd.R_reads' HO238.out).1; omega) | simpa using h_) (seg := [.int .i64 t250, .int .i64 t251]) (j := 0) hcl33 hcc33 (show 2 ≤ 3 from by decide) (x' := (⟨(⟨t250, t251⟩ : S32), (rd_T34 t236 t240).f1⟩ : S34)) (k34_mkM _ _ _ (⟨(⟨t250, t251⟩ : S32), (rd_T34 t236 t240).f1⟩ : S34) ) (fun _ hk => hk); have hx33_0 := hcc33 0 _ rfl; (try simp only [show (k34).sz = 3 from rfl, Nat.mul_one, Nat.add_zero] at hx33_0); have hf33_0 := hfr33 0; (try simp only [show (k34).sz = 3 from rfl, Nat.mul_one, Nat.add_zero] at hf33_0); have hx33_1 := hcc33 1 _ rfl; (try simp only [show (k34).sz = 3 from rfl, Nat.mul_one, Nat.add_zero] at hx33_1); have hf33_1 := hfr33 1; (try simp only [show (k34).sz = 3 from rfl, Nat.mul_one, Nat.add_zero] at hf33_1); clear hcl33 hcc33 hfr33 hM33) | ((with_reducible refine gate_store (t := 32) (p := 33) rfl ?_); refine store_event (t := 32) (p := 33) (v := ?vo_w34) (w1 := ((w32.setCell ⟨go27, (t240 : Int).toNat * 3, none⟩ (.int .i64 t250)).setCell ⟨go27, (t240 : Int).toNat * 3 + 1, none⟩ (.int .i64 t251))) ?hg ?ho ?hn ?hr ?_; (case ho => rfl); (case hg => rfl); (case hn => rfl); (case hr => exact zz26); intro w34 hw; have hg : w32.grownBy w34 (some go27) := (by rw [hw]; exact HP33.2); have hp_ : Kd.R k34 34 w34 w.heap.size (fun _ => True) (.slice (some ⟨go27, 0, none⟩) t236.length co29) y253 := (by rw [hw, Ny253.out]; exact HP33.1); clear HP33; replace HI0 := Aside0.mk (IsS64.grown (zz10 HI0) hg (IsS64.own_ne HI0.out HO238.out (by decide))); replace HB := Aside0.mk (by rw [hw]; exact below_set (below_set (HB.out) (Nat.le_trans HL.out GB27.out)) (Nat.le_trans HL.out GB27.out) : Below w0.heap.size w0 w34); replace HK := Aside0.mk (KeepBut.trans zz11 (KeepBut.of_grown hg g) (Kd.R_base2 HO238.out)); replace HO238 := Aside0.mk hp_; clear hg hw hp_))
    go_ret
    exact ⟨_, zz13, zz22 HO238, zz10 HI0, zz12 HI0, zz11⟩
   ·rw [if_neg c23] at H
    have c23b0 : (t242 == 1) = false := beq_eq_false_iff_ne.mpr c23
    have c23b1 : (t242 != 1) = true := bne_iff_ne.mpr c23
    by_cases c35 : t242 = 2
    ·rw [if_pos c35] at H
     have c35b0 : (t242 == 2) = true := beq_iff_eq.mpr c35
     have c35b1 : (t242 != 2) = false := bne_eq_false_iff_eq.mpr c35
     clear c35
     replace H := gp H
     obtain ⟨c36, H⟩ := H
     have c36b0 : decide (0 < (t236.length : Int)) = true := decide_eq_true c36
     have c36b1 : decide (0 < t236.length) = true := decide_eq_true (by omega)
     clear c36
     replace H := gp H
     obtain ⟨c37, H⟩ := H
     have LMc37 := Aside0.mk c37
     clear c37
     obtain ⟨y255, hy255⟩ : ∃ y_ : List (S34), y_ = (t236 ++ [(⟨(⟨(rd_T34 t236 0).f0.f0, (rd_T34 t236 0).f0.f1⟩ : S32), (rd_T34 t236 0).f1⟩ : S34)]) := ⟨_, rfl⟩
     replace H : (some (y255, t243)) = some (r1, r2) := by first | (rw [hy255]; with_reducible exact H) | (have H2_ := (Option.bind_some _ _).symm.trans H; rw [hy255]; with_reducible exact H2_) | (have H2_ := (Option.bind_some _ _).symm.trans H; with_reducible exact H2_) | with_reducible exact H | (rw [hy255]; exact H) | exact H
     have Ny255 := Aside0.mk hy255
     clear hy255
     simp only [Option.some.injEq, Prod.mk.injEq] at H
     obtain ⟨rfl, rfl⟩ := H
     go_enter Tryz.func14, Tryz.ntmps14
     go_wp2_with (first | (refine gc (some 6) Tryz.func38 #[.pointer (some ⟨g, 0, none⟩)] ?_; (with_reducible refine (spec_l12Ways.calls k g s0_0 s0_1 t236 t239 w0 _ ?side1 ?side2 A2.out).mono ?_); (case side1 => exact zz10 HI0); (case side2 => exact zz12 HI0); rintro e w38 ⟨v237, rfl, ho0, hi, hb, hk⟩; refine ⟨_, rfl, ?_⟩; have HO238 := Aside0.mk (Kd.R_lower ho0 (keep_size (w := w) (g := g) (row := none) zz11)); replace HK := Aside0.mk (KeepBut.trans zz11 hk (.inl rfl)); replace HB := Aside0.mk hb; replace HI0 := Aside0.mk hi; clear hb hk hi ho0; obtain ⟨Ao39, co39, eo39⟩ := Kd.R_slice HO238.out; subst eo39) | (refine gc (some 14) Tryz.func28 #[.pointer (some ⟨g, 0, none⟩), .int .i64 (t236.length : Int)] ?_; (with_reducible refine (spec_l1Rd_pick.calls k g s0_0 t239 (t236.length : Int) t240 t241 w0 _ ?side1 ?side2 A6.out).mono ?_); (case side1 => exact zz10 HI0); (case side2 => exact zz12 HI0); rintro e w40 ⟨rfl, hi, hb, hk⟩; refine ⟨_, rfl, ?_⟩; replace HO238 := Aside0.mk (Kd.R_mono (Kd.R_keep (IsS64.apart (show IsS64 w0 _ g s0_0 t239 from zz10 HI0) (zz22 HO238) (by decide)) hk (fun _ h => h.2)) (fun _ h => h.1)); replace HK := Aside0.mk (KeepBut.trans zz11 hk (.inl rfl)); replace HB := Aside0.mk hb; replace HI0 := Aside0.mk hi; clear hb hk hi) | (refine gc (some 16) Tryz.func28 #[.pointer (some ⟨g, 0, none⟩), .int .i64 20] ?_; (with_reducible refine (spec_l1Rd_pick.calls k g s0_0 t241 20 t242 t243 w0 _ ?side1 ?side2 A7.out).mono ?_); (case side1 => exact zz10 HI0); (case side2 => exact zz12 HI0); rintro e w41 ⟨rfl, hi, hb, hk⟩; refine ⟨_, rfl, ?_⟩; replace HO238 := Aside0.mk (Kd.R_mono (Kd.R_keep (IsS64.apart (show IsS64 w0 _ g s0_0 t241 from zz10 HI0) (zz22 HO238) (by decide)) hk (fun _ h => h.2)) (fun _ h => h.1)); replace HK := Aside0.mk (KeepBut.trans zz11 hk (.inl rfl)); replace HB := Aside0.mk hb; replace HI0 := Aside0.mk hi; clear hb hk hi; have p254 : 0 ≤ (0 : Int) := (by omega); have q254 : 0 < (t236.length : Int) := of_decide_eq_true zz2; obtain ⟨ad254, e254, hx254_0, hx254_1, hx254_2⟩ := at_T34 (Kd.R_reads' HO238.out).2.2 0 p254 q254; cases e254; have qi254 : (0 < t236.length) = True := eq_true (by omega); (try rw [show ((0 : Int)).toNat = 0 from rfl] at hx254_0); (try rw [show 0 * 3 = 0 from rfl] at hx254_0); (try rw [Addr.add_zero'] at hx254_0); (try rw [show ((0 : Int)).toNat = 0 from rfl] at hx254_1); (try rw [show 0 * 3 = 0 from rfl] at hx254_1); (try rw [Addr.add_zero'] at hx254_1); (try rw [show ((0 : Int)).toNat = 0 from rfl] at hx254_2); (try rw [show 0 * 3 = 0 from rfl] at hx254_2); (try rw [Addr.add_zero'] at hx254_2); replace p254 := eq_true p254; replace q254 := eq_true q254) | ((with_reducible refine gate_builtin (b := .append) (xs := #[.tmp 36, .tmp 40]) rfl ?_); at_builtin; refine Kd.R_append k34 w.heap.size rfl (.tmp 36) (.tmp 40) 23 34 (.agg #[(.int .i64 0), (.int .i64 0), (.int .i64 0)]) 24 rfl Tryz.underlying23 info34 rfl (by decide) (by omega) (.slice (some ad254) t236.length co39) t236 (⟨(⟨(rd_T34 t236 0).f0.f0, (rd_T34 t236 0).f0.f1⟩ : S32), (rd_T34 t236 0).f1⟩ : S34) [.int .i64 ((rd_T34 t236 0).f0.f0), .int .i64 ((rd_T34 t236 0).f0.f1), .int .i64 ((rd_T34 t236 0).f1)] (fun _ => True) (fun _ => False) rfl rfl ?aP (fun _ hk => hk.elim) ?aF ?aO (Below.refl _ _) ?aS ?aL ?_; (case aP => exact k34_mkM _ _ _ (⟨(⟨(rd_T34 t236 0).f0.f0, (rd_T34 t236 0).f0.f1⟩ : S32), (rd_T34 t236 0).f1⟩ : S34)); (case aF => exact zz21); (case aO => exact zz22 HO238); (case aS => exact (keep_size (w := w) (g := g) (row := none) zz11)); (case aL => exact zz15 LMc37); intro v256 w42 ho hb hg hat; rw [← Ny255.out] at ho; replace HB := Aside0.mk (below_weaken (zz12 HI0) HL.out hb); replace HI0 := Aside0.mk (IsS64.grown (zz10 HI0) hg (IsS64.own_ne HI0.out HO238.out (by decide))); replace HK := Aside0.mk (KeepBut.trans zz11 (KeepBut.of_grown hg g) (Kd.R_base2 HO238.out)); have HO257 := Aside0.mk ho; clear HO238 ho hb hg hat))
     go_ret
     exact ⟨_, zz13, zz22 HO257, zz10 HI0, zz12 HI0, zz11⟩
    ·rw [if_neg c35] at H
     have c35b0 : (t242 == 2) = false := beq_eq_false_iff_ne.mpr c35
     have c35b1 : (t242 != 2) = true := bne_iff_ne.mpr c35
     simp only [Option.some.injEq, Prod.mk.injEq] at H
     obtain ⟨rfl, rfl⟩ := H
     go_enter Tryz.func14, Tryz.ntmps14
     go_wp2_with (first | (refine gc (some 6) Tryz.func38 #[.pointer (some ⟨g, 0, none⟩)] ?_; (with_reducible refine (spec_l12Ways.calls k g s0_0 s0_1 t236 t239 w0 _ ?side1 ?side2 A2.out).mono ?_); (case side1 => exact zz10 HI0); (case side2 => exact zz12 HI0); rintro e w43 ⟨v237, rfl, ho0, hi, hb, hk⟩; refine ⟨_, rfl, ?_⟩; have HO238 := Aside0.mk (Kd.R_lower ho0 (keep_size (w := w) (g := g) (row := none) zz11)); replace HK := Aside0.mk (KeepBut.trans zz11 hk (.inl rfl)); replace HB := Aside0.mk hb; replace HI0 := Aside0.mk hi; clear hb hk hi ho0; obtain ⟨Ao44, co44, eo44⟩ := Kd.R_slice HO238.out; subst eo44) | (refine gc (some 14) Tryz.func28 #[.pointer (some ⟨g, 0, none⟩), .int .i64 (t236.length : Int)] ?_; (with_reducible refine (spec_l1Rd_pick.calls k g s0_0 t239 (t236.length : Int) t240 t241 w0 _ ?side1 ?side2 A6.out).mono ?_); (case side1 => exact zz10 HI0); (case side2 => exact zz12 HI0); rintro e w45 ⟨rfl, hi, hb, hk⟩; refine ⟨_, rfl, ?_⟩; replace HO238 := Aside0.mk (Kd.R_mono (Kd.R_keep (IsS64.apart (show IsS64 w0 _ g s0_0 t239 from zz10 HI0) (zz22 HO238) (by decide)) hk (fun _ h => h.2)) (fun _ h => h.1)); replace HK := Aside0.mk (KeepBut.trans zz11 hk (.inl rfl)); replace HB := Aside0.mk hb; replace HI0 := Aside0.mk hi; clear hb hk hi) | (refine gc (some 16) Tryz.func28 #[.pointer (some ⟨g, 0, none⟩), .int .i64 20] ?_; (with_reducible refine (spec_l1Rd_pick.calls k g s0_0 t241 20 t242 t243 w0 _ ?side1 ?side2 A7.out).mono ?_); (case side1 => exact zz10 HI0); (case side2 => exact zz12 HI0); rintro e w46 ⟨rfl, hi, hb, hk⟩; refine ⟨_, rfl, ?_⟩; replace HO238 := Aside0.mk (Kd.R_mono (Kd.R_keep (IsS64.apart (show IsS64 w0 _ g s0_0 t241 from zz10 HI0) (zz22 HO238) (by decide)) hk (fun _ h => h.2)) (fun _ h => h.1)); replace HK := Aside0.mk (KeepBut.trans zz11 hk (.inl rfl)); replace HB := Aside0.mk hb; replace HI0 := Aside0.mk hi; clear hb hk hi))
     go_ret
     exact ⟨_, zz13, zz22 HO238, zz10 HI0, zz12 HI0, zz11⟩
end Go.Proofs.YthkjkmgbdahggaaGreat.PY
