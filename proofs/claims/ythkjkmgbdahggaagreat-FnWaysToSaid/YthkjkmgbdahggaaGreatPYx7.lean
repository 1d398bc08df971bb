/- A text printed by this session's wip/myprint.py over the kit's print: contracts of functions of the given program, each at what its Lean function says. -/
import Derived.Test.YthkjkmgbdahggaaGreatPYx0
import Derived.Test.YthkjkmgbdahggaaGreatPYx2
import Derived.Test.YthkjkmgbdahggaaGreatPYx6
namespace Go.Proofs.YthkjkmgbdahggaaGreat.PY
open Go.RowKit Go.Proofs.YthkjkmgbdahggaaGreatW.PrintWords Go.Proofs.YthkjkmgbdahggaaGreatW.PrintLast Go.Proofs.YthkjkmgbdahggaaGreatW.PrintMore Go.Proofs.YthkjkmgbdahggaaGreat.Sq
attribute [local go_sem] max2_int min2_int max_two min_two max_three min_three max_four min_four   -- for this text's walks alone
set_option linter.unusedVariables false
set_option linter.unusedSimpArgs false
def spec_DrawWaysTo.f (k : Nat) (l0 : List Int) : Option ((List (S34)) × Int) := (spec_l1Open.f l0).bind fun bt258 => ((spec_l12AnyWays.f k bt258.1 bt258.2).bind fun bt261 => ((spec_l1Rd_one.f k bt258.1 bt261.2 (([(-1), 0, 1, 2, 99, 100, (-2)] : List Int))).bind fun bt268 => (some (bt261.1, bt268.1))))
set_option maxHeartbeats 8000000 in
set_option maxRecDepth 100000 in
theorem spec_DrawWaysTo.calls (k : Nat) (A0 : Option Addr) (c0 : Nat) (l0 : List Int) (r1 : List (S34)) (r2 : Int) (w : World) (hr0 : Kd.C (Kd.int .u8) w A0 l0.length l0) (hc0 : l0.length ≤ c0) (h : spec_DrawWaysTo.f k l0 = some (r1, r2)) :
  Calls Tryz.prog 4 #[.slice A0 l0.length c0] w fun e w' => ∃ v0_ : Value, e = .returned (.tuple #[v0_, .int .i64 r2]) ∧ Kd.R k34 34 w' w.heap.size (fun _ => True) v0_ r1 ∧ Below w.heap.size w w' := by
 have HR0 := Aside0.mk hr0
 have HC0 := Aside0.mk hc0
 clear hr0 hc0
 have HB := Aside0.mk (Below.refl w.heap.size w)
 have H : ((spec_l1Open.f l0).bind fun bt258 => ((spec_l12AnyWays.f k bt258.1 bt258.2).bind fun bt261 => ((spec_l1Rd_one.f k bt258.1 bt261.2 (([(-1), 0, 1, 2, 99, 100, (-2)] : List Int))).bind fun bt268 => (some (bt261.1, bt268.1))))) = some (r1, r2) := h
 clear h
 replace H := bd H
 obtain ⟨⟨t258, t259⟩, A2, H⟩ := H
 replace H : ((spec_l12AnyWays.f k t258 t259).bind fun bt261 => ((spec_l1Rd_one.f k t258 bt261.2 (([(-1), 0, 1, 2, 99, 100, (-2)] : List Int))).bind fun bt268 => (some (bt261.1, bt268.1)))) = some (r1, r2) := H
 replace H := bd H
 obtain ⟨⟨t261, t264⟩, A3, H⟩ := H
 replace H : ((spec_l1Rd_one.f k t258 t264 (([(-1), 0, 1, 2, 99, 100, (-2)] : List Int))).bind fun bt268 => (some (t261, bt268.1))) = some (r1, r2) := H
 obtain ⟨y265, hy265⟩ : ∃ y_ : List Int, y_ = (([(-1), 0, 1, 2, 99, 100, (-2)] : List Int)) := ⟨_, rfl⟩
 replace H : ((spec_l1Rd_one.f k t258 t264 y265).bind fun bt268 => (some (t261, bt268.1))) = some (r1, r2) := by first | (rw [hy265]; with_reducible exact H) | (have H2_ := (Option.bind_some _ _).symm.trans H; rw [hy265]; with_reducible exact H2_) | (have H2_ := (Option.bind_some _ _).symm.trans H; with_reducible exact H2_) | with_reducible exact H | (rw [hy265]; exact H) | exact H
 have Ny265 := Aside0.mk hy265
 clear hy265
 replace H := bd H
 obtain ⟨⟨t268, t269⟩, A4, H⟩ := H
 replace H : (some (t261, t268)) = some (r1, r2) := H
 simp only [Option.some.injEq, Prod.mk.injEq] at H
 obtain ⟨rfl, rfl⟩ := H
 go_enter Tryz.func4, Tryz.ntmps4
 go_wp2_with (first | (refine gc (some 6) Tryz.func13 #[.slice A0 l0.length c0] ?_; (with_reducible refine (spec_l1Open.calls _ _ l0 t258 t259 w _ ?side1 ?side2 ?side3 A2.out).mono ?_); (case side1 => exact zz3); (case side2 => exact HR0.out); (case side3 => exact HC0.out); rintro e w5 ⟨g260, rfl, hi, hb, hb2⟩; refine ⟨_, rfl, ?_⟩; replace HB := Aside0.mk hb; have HI260 := Aside0.mk hi; clear hb hb2 hi) | (refine gc (some 8) Tryz.func14 #[.pointer (some ⟨g260, 0, none⟩)] ?_; (with_reducible refine (spec_l12AnyWays.calls k g260 t258 t259 t261 t264 w _ ?side1 ?side2 A3.out).mono ?_); (case side1 => exact zz10 HI260); (case side2 => exact zz12 HI260); rintro e w6 ⟨v262, rfl, ho0, hi, hb, hk⟩; refine ⟨_, rfl, ?_⟩; have HO263 := Aside0.mk (Kd.R_lower ho0 (below_size (zz12 HI260))); replace HB := Aside0.mk hb; replace HI260 := Aside0.mk hi; clear hb hk hi ho0) | (refine gt 10 ?_; refine rl (Kd.int .i64) 3 10 ([(-1), 0, 1, 2, 99, 100, (-2)] : List Int) [.int .i64 (-1), .int .i64 0, .int .i64 1, .int .i64 2, .int .i64 99, .int .i64 100, .int .i64 (-2)] ?hp ?_; (case hp => exact (ro (ro (ro (ro (ro (ro (ro (Reps.none _ _))))))))); intro v266 w7 ho8 hb hg_ hnew_; clear hg_ hnew_; (first | rw [← Ny265.out] at ho8 | (simp only [Int.reduceToNat] at ho8; rw [← Ny265.out] at ho8)); replace HO263 := Aside0.mk (Kd.R_below (zz22 HO263) hb); have HO267 := Aside0.mk (Kd.R_lower ho8 (below_size (zz12 HI260))); replace HB := Aside0.mk (below_step (zz12 HI260) hb); replace HI260 := Aside0.mk (IsS64.below (zz10 HI260) hb); clear hb ho8; obtain ⟨Ao9, co9, eo9⟩ := Kd.R_slice HO267.out; subst eo9) | (refine gc (some 11) Tryz.func15 #[.pointer (some ⟨g260, 0, none⟩), .slice Ao9 y265.length co9] ?_; (with_reducible refine (spec_l1Rd_one.calls k g260 t258 t264 _ _ y265 t268 t269 w _ ?side1 ?side2 ?side3 ?side4 ?side5 A4.out).mono ?_); (case side1 => exact zz10 HI260); (case side2 => exact zz12 HI260); (case side3 => exact zz31 HO267); (case side4 => exact zz33 HO267); (case side5 => exact zz34 HI260 HO267); rintro e w10 ⟨rfl, hi, hb, hk⟩; refine ⟨_, rfl, ?_⟩; replace HO263 := Aside0.mk (Kd.R_mono (Kd.R_keep (IsS64.apart (show IsS64 w _ g260 t258 t264 from zz10 HI260) (zz22 HO263) (by decide)) hk (fun _ h => h.2)) (fun _ h => h.1)); replace HO267 := Aside0.mk (Kd.R_mono (Kd.R_keep (IsS64.apart (show IsS64 w _ g260 t258 t264 from zz10 HI260) (zz22 HO267) (by decide)) hk (fun _ h => h.2)) (fun _ h => h.1)); replace HB := Aside0.mk hb; replace HI260 := Aside0.mk hi; clear hb hk hi))
 go_ret2
 exact ⟨_, zz13, zz22 HO263, zz12 HI260⟩
def impl_in.f (a0 : Int) (a1 : Int) (a2 : Int) : Option (Bool) := if a0 ≥ a1 then (some (decide (a0 ≤ a2))) else (some false)
set_option maxHeartbeats 8000000 in
set_option maxRecDepth 100000 in
theorem impl_in.calls (a0 : Int) (a1 : Int) (a2 : Int) (r : Bool) (w : World) (h : impl_in.f a0 a1 a2 = some r) :
  Calls Tryz.prog 17 #[.int .i64 a0, .int .i64 a1, .int .i64 a2] w fun e w' => e = .returned (.bool r) ∧ Drawn0 w w' := by
 have H : (if a0 ≥ a1 then (some (decide (a0 ≤ a2))) else (some false)) = some r := h
 clear h
 replace H := ic H
 rcases H with ⟨c4b0, H⟩ | ⟨c4b0, H⟩
 ·obtain rfl := Option.some.inj H
  go_enter Tryz.func17, Tryz.ntmps17
  go_wp2
  go_ret
  exact ⟨zz8, zz14⟩
 ·obtain rfl := Option.some.inj H
  go_enter Tryz.func17, Tryz.ntmps17
  go_wp2
  go_ret
  exact ⟨zz8, zz14⟩
def impl_Block_size.f (a0_0 : Int) (a0_1 : Int) : Option (Int) := if 0 ≤ (wrap64 (32 - a0_1)) then (some (shl .i64 1 (wrap64 (32 - a0_1)))) else (none)
set_option maxHeartbeats 8000000 in
set_option maxRecDepth 100000 in
theorem impl_Block_size.calls (a0_0 : Int) (a0_1 : Int) (r : Int) (w : World) (h : impl_Block_size.f a0_0 a0_1 = some r) :
  Calls Tryz.prog 30 #[.agg #[.int .i64 a0_0, .int .i64 a0_1]] w fun e w' => e = .returned (.int .i64 r) ∧ Below w.heap.size w w' := by
 have hu32 := Tryz.underlying32
 have HB := Aside0.mk (Below.refl w.heap.size w)
 have H : (if 0 ≤ (wrap64 (32 - a0_1)) then (some (shl .i64 1 (wrap64 (32 - a0_1)))) else (none)) = some r := h
 clear h
 obtain ⟨ji2, hji2⟩ : ∃ j_ : Int, (wrap64 (32 - a0_1)) = j_ := ⟨_, rfl⟩
 replace H : (if 0 ≤ (ji2) then (some (shl .i64 1 (ji2))) else (none)) = some r := by first | (rw [hji2] at H; exact H) | (simp only [hji2] at H ⊢; exact H)
 have hji2w : (IntKind.i64.wrap (32 - a0_1)) = ji2 := (i64_w _).trans hji2
 by_cases c3 : 0 ≤ (ji2)
 ·rw [if_pos c3] at H
  have c3b0 := eq_true c3
  have c3b1 : decide (0 ≤ (ji2)) = true := decide_eq_true c3
  clear c3
  obtain ⟨ji4, hji4⟩ : ∃ j_ : Int, (shl .i64 1 (ji2)) = j_ := ⟨_, rfl⟩
  replace H : (some ji4) = some r := by first | (rw [hji4] at H; exact H) | (simp only [hji4] at H ⊢; exact H)
  have hji4_ : (IntKind.i64.wrap (1 * 2 ^ min (ji2).toNat 64)) = ji4 := hji4
  have hji4z : (ji2) ≤ 64 → (IntKind.i64.wrap (1 * 2 ^ (ji2).toNat)) = ji4 := shl_small hji4
  have hji4u : (IntKind.i64.wrap (2 ^ min (ji2).toNat 64)) = ji4 := by have h_ := hji4_; rw [Int.one_mul] at h_; exact h_
  have hji4v : (ji2) ≤ 64 → (IntKind.i64.wrap (2 ^ (ji2).toNat)) = ji4 := fun hle_ => by have h_ := hji4z hle_; rw [Int.one_mul] at h_; exact h_
  have hji4y : (wrap64 (1 * 2 ^ min (ji2).toNat 64)) = ji4 := (i64_w _).symm.trans hji4_
  have hji4x : (ji2) ≤ 64 → (wrap64 (1 * 2 ^ (ji2).toNat)) = ji4 := fun h_ => (i64_w _).symm.trans (hji4z h_)
  obtain rfl := Option.some.inj H
  go_enter Tryz.func30, Tryz.ntmps30
  go_wp2_with (first | (refine be 1 #[.int .i64 a0_0, .int .i64 a0_1] 32 ?_; intro gb270 hg w5 hbox hb; have BK270 := Aside0.mk hbox; have GW270 := Aside0.mk (zz16 : w.heap.size ≤ gb270); have GE270 := Aside0.mk (zz16 : w.heap.size ≤ gb270); replace HB := Aside0.mk (below_step zz3 hb); clear hb hbox hg; have hcz6_0 : w5.cell? ⟨gb270, 0, none⟩ = some (.int .i64 a0_0) := (blk_cell BK270.out 0).trans rfl; have hcz6_1 : w5.cell? ⟨gb270, 1, none⟩ = some (.int .i64 a0_1) := (blk_cell BK270.out 1).trans rfl; have hfz6_0 := blk_frozen BK270.out 0; have hfz6_1 := blk_frozen BK270.out 1))
  go_ret
  exact ⟨by first | rfl | (simp [errW_none, errW_some] <;> rfl) | (simp only [← hji2, ← hji4]; first | rfl | (simp [errW_none, errW_some] <;> rfl)) | (simp [*, errW_none, errW_some] <;> rfl), zz6 GE270⟩
 ·rw [if_neg c3] at H
  exact absurd H (by simp)
def impl_isAddr.f (a0 : Int) : Option (Bool) := (impl_in.f a0 0 4294967295).bind fun t271 => (some t271)
set_option maxHeartbeats 8000000 in
set_option maxRecDepth 100000 in
theorem impl_isAddr.calls (a0 : Int) (r : Bool) (w : World) (h : impl_isAddr.f a0 = some r) :
  Calls Tryz.prog 37 #[.int .i64 a0] w fun e w' => e = .returned (.bool r) ∧ Drawn0 w w' := by
 have H : ((impl_in.f a0 0 4294967295).bind fun t271 => (some t271)) = some r := h
 clear h
 replace H := bd H
 obtain ⟨t271, A2, H⟩ := H
 replace H : (some t271) = some r := H
 obtain rfl := Option.some.inj H
 go_enter Tryz.func37, Tryz.ntmps37
 go_wp2_with (first | (refine gc (some 4) Tryz.func17 #[.int .i64 a0, .int .i64 0, .int .i64 4294967295] ?_; (with_reducible refine (impl_in.calls a0 0 4294967295 t271 _ A2.out).mono ?_); rintro e w' ⟨rfl, ⟨nd, rfl⟩⟩; refine ⟨_, rfl, ?_⟩))
 go_ret
 exact ⟨zz8, zz14⟩
def impl_BlockOk.f (a0_0 : Int) (a0_1 : Int) : Option (Bool) := (impl_isAddr.f a0_0).bind fun t273 => (if t273 = true then ((impl_in.f a0_1 0 32).bind fun t274 => (if t274 = true then ((impl_Block_size.f a0_0 a0_1).bind fun t275 => (if t275 = 0 then (none) else (some ((Int.tmod a0_0 t275) == 0)))) else (some false))) else (some false))
def impl_BlockOk.T1 : Bool × List (List Nat × List Nat) := (true, [([], []), ([0], [0]), ([1], [1]), ([2, 2], [2]), ([3], [3]), ([4, 3], [3, 4]), ([5, 3, 3], [3, 5]), ([3, 6], [3, 6]), ([7, 6], [7]), ([8], [8]), ([9, 8], [8, 9]), ([8], [8]), ([11, 8, 8], [8, 11]), ([10, 12, 8], [8, 10, 12]), ([13, 8], [8, 13]), ([8, 14], [8, 14]), ([15, 12, 0, 1, 2, 3, 4, 5, 6, 7, 8, 9, 10, 11, 12, 13, 14, 15], [15])])
def impl_BlockOk.B1 : List Nat := [0, 1, 3, 7, 15, 31, 63, 127, 255, 511, 1023, 511, 2559, 8191, 16383, 32767, 65535]
theorem impl_BlockOk.tab1 : rtab .any (opsOf Tryz.f40 1) = impl_BlockOk.T1 := by kernel_rfl
theorem impl_BlockOk.bits1 : waitsOk impl_BlockOk.T1.2 impl_BlockOk.B1 = true := by kernel_rfl
set_option maxHeartbeats 8000000 in
set_option maxRecDepth 100000 in
theorem impl_BlockOk.calls (a0_0 : Int) (a0_1 : Int) (r : Bool) (w : World) (h : impl_BlockOk.f a0_0 a0_1 = some r) :
  Calls Tryz.prog 40 #[.agg #[.int .i64 a0_0, .int .i64 a0_1]] w fun e w' => e = .returned (.bool r) ∧ Below w.heap.size w w' := by
 have hu32 := Tryz.underlying32
 have HB := Aside0.mk (Below.refl w.heap.size w)
 have H : ((impl_isAddr.f a0_0).bind fun t273 => (if t273 = true then ((impl_in.f a0_1 0 32).bind fun t274 => (if t274 = true then ((impl_Block_size.f a0_0 a0_1).bind fun t275 => (if t275 = 0 then (none) else (some ((Int.tmod a0_0 t275) == 0)))) else (some false))) else (some false))) = some r := h
 clear h
 replace H := bd H
 obtain ⟨t273, A2, H⟩ := H
 replace H : (if t273 = true then ((impl_in.f a0_1 0 32).bind fun t274 => (if t274 = true then ((impl_Block_size.f a0_0 a0_1).bind fun t275 => (if t275 = 0 then (none) else (some ((Int.tmod a0_0 t275) == 0)))) else (some false))) else (some false)) = some r := H
 by_cases c3 : t273 = true
 ·subst c3
  have H1 : ((impl_in.f a0_1 0 32).bind fun t274 => (if t274 = true then ((impl_Block_size.f a0_0 a0_1).bind fun t275 => (if t275 = 0 then (none) else (some ((Int.tmod a0_0 t275) == 0)))) else (some false))) = some r := by rw [if_pos rfl] at H; exact H
  clear H
  have H := H1
  clear H1
  replace H := bd H
  obtain ⟨t274, A4, H⟩ := H
  replace H : (if t274 = true then ((impl_Block_size.f a0_0 a0_1).bind fun t275 => (if t275 = 0 then (none) else (some ((Int.tmod a0_0 t275) == 0)))) else (some false)) = some r := H
  by_cases c5 : t274 = true
  ·subst c5
   have H1 : ((impl_Block_size.f a0_0 a0_1).bind fun t275 => (if t275 = 0 then (none) else (some ((Int.tmod a0_0 t275) == 0)))) = some r := by rw [if_pos rfl] at H; exact H
   clear H
   have H := H1
   clear H1
   replace H := bd H
   obtain ⟨t275, A6, H⟩ := H
   replace H : (if t275 = 0 then (none) else (some ((Int.tmod a0_0 t275) == 0))) = some r := H
   replace H := gn H
   obtain ⟨c7, H⟩ := H
   have c7b0 : (t275 == 0) = false := beq_eq_false_iff_ne.mpr c7
   have c7b1 : (t275 != 0) = true := bne_iff_ne.mpr c7
   obtain rfl := Option.some.inj H
   go_enter Tryz.func40, Tryz.ntmps40
   try go_wp2_with (first | (refine be 1 #[.int .i64 a0_0, .int .i64 a0_1] 32 ?_; intro gb272 hg w8 hbox hb; have BK272 := Aside0.mk hbox; have GW272 := Aside0.mk (zz16 : w.heap.size ≤ gb272); have GE272 := Aside0.mk (zz16 : w.heap.size ≤ gb272); replace HB := Aside0.mk (below_step zz3 hb); clear hb hbox hg))
   replace BK272 := Aside0.mk (blk_drew BK272.out)
   replace HB := Aside0.mk (below_drew1 HB.out)
   refine start_ (n := 17) (S := fun w' => w'.cell? ⟨gb272, 0, none⟩ = some (.int .i64 a0_0) ∧ w'.cell? ⟨gb272, 1, none⟩ = some (.int .i64 a0_1)) (ds := []) (bm 17 0) (by kernel_rfl) rfl rfl ⟨(blk_cell BK272.out 0).trans rfl, (blk_cell BK272.out 1).trans rfl⟩ (fun hHeld => ?_); refine with_tabW impl_BlockOk.tab1 impl_BlockOk.bits1 (fun HT_ HW_ => ?_)
   generalize w8.drew = w9 at BK272 HB hHeld ⊢
   refine pu 0 3 (bm 17 1) ?_
   refine tk 1 4 (bm 17 3) ?_
   refine on 2 (some 5) (bm 17 7) (fun K hK => ?_)
   refine gs Tryz.func37 #[.int .i64 a0_0] ?_
   with_reducible refine (impl_isAddr.calls a0_0 true _ A2.out).mono ?_
   rintro e w' ⟨rfl, ⟨nd, rfl⟩⟩
   refine ⟨_, rfl, ?_⟩
   refine hK.out _ _ ⟨(blk_cell BK272.out 0).trans rfl, (blk_cell BK272.out 1).trans rfl⟩ (fun hHeld => ?_)
   clear hK K
   refine nm 5 ?_
   refine pu 3 6 (bm 17 15) ?_
   refine pu 4 7 (bm 17 31) ?_
   refine tk 5 8 (bm 17 63) ?_
   refine on 6 (some 9) (bm 17 127) (fun K hK => ?_)
   refine gs Tryz.func17 #[.int .i64 a0_1, .int .i64 0, .int .i64 32] ?_
   with_reducible refine (impl_in.calls a0_1 0 32 true _ A4.out).mono ?_
   rintro e w' ⟨rfl, ⟨nd, rfl⟩⟩
   refine ⟨_, rfl, ?_⟩
   refine hK.out _ _ ⟨(blk_cell BK272.out 0).trans rfl, (blk_cell BK272.out 1).trans rfl⟩ (fun hHeld => ?_)
   clear hK K
   refine nm 9 ?_
   refine pu 7 10 (bm 17 255) ?_
   refine pu 8 11 (bm 17 511) ?_
   refine pu 9 12 (bm 17 1023) ?_
   refine tk 10 13 (bm 17 2047) ?_
   refine tk 11 14 (bm 17 4095) ?_
   refine on 12 (some 15) (bm 17 8191) (fun K hK => ?_)
   refine gs Tryz.func30 #[.agg #[.int .i64 a0_0, .int .i64 a0_1]] ?_
   with_reducible refine (impl_Block_size.calls a0_0 a0_1 t275 _ A6.out).mono ?_
   rintro e w10 ⟨rfl, hb⟩
   refine ⟨_, rfl, ?_⟩
   replace BK272 := Aside0.mk (blk_below (g := gb272) (o := .cells #[.int .i64 a0_0, .int .i64 a0_1] 32 (0, 0)) (zz5 BK272) hb)
   replace HB := Aside0.mk (below_step (zz6 GE272) hb)
   (try clear hb)
   (try clear hb2)
   (try clear hk)
   (try clear hi)
   refine hK.out _ _ ⟨(blk_cell BK272.out 0).trans rfl, (blk_cell BK272.out 1).trans rfl⟩ (fun hHeld => ?_)
   clear hK K
   refine nm 15 ?_
   refine pu 13 16 (bm 17 16383) ?_
   refine pu 14 17 (bm 17 32767) ?_
   refine pu 15 18 (bm 17 65535) ?_
   refine pu 16 2 (bm 17 131071) ?_
   refine done_ (done_of HT_.out (by kernel_rfl)) ?_
   try go_wp2
   go_ret
   exact ⟨zz13, zz6 GE272⟩
  ·replace c5 := Bool.eq_false_iff.mpr c5
   subst c5
   have H1 : (some false) = some r := by rw [if_neg (show ¬ (false = true) by decide)] at H; exact H
   clear H
   have H := H1
   clear H1
   obtain rfl := Option.some.inj H
   go_enter Tryz.func40, Tryz.ntmps40
   try go_wp2_with (first | (refine be 1 #[.int .i64 a0_0, .int .i64 a0_1] 32 ?_; intro gb272 hg w11 hbox hb; have BK272 := Aside0.mk hbox; have GW272 := Aside0.mk (zz16 : w.heap.size ≤ gb272); have GE272 := Aside0.mk (zz16 : w.heap.size ≤ gb272); replace HB := Aside0.mk (below_step zz3 hb); clear hb hbox hg))
   replace BK272 := Aside0.mk (blk_drew BK272.out)
   replace HB := Aside0.mk (below_drew1 HB.out)
   refine start_ (n := 17) (S := fun w' => w'.cell? ⟨gb272, 0, none⟩ = some (.int .i64 a0_0) ∧ w'.cell? ⟨gb272, 1, none⟩ = some (.int .i64 a0_1)) (ds := []) (bm 17 0) (by kernel_rfl) rfl rfl ⟨(blk_cell BK272.out 0).trans rfl, (blk_cell BK272.out 1).trans rfl⟩ (fun hHeld => ?_); refine with_tabW impl_BlockOk.tab1 impl_BlockOk.bits1 (fun HT_ HW_ => ?_)
   generalize w11.drew = w12 at BK272 HB hHeld ⊢
   refine pu 0 3 (bm 17 1) ?_
   refine tk 1 4 (bm 17 3) ?_
   refine on 2 (some 5) (bm 17 7) (fun K hK => ?_)
   refine gs Tryz.func37 #[.int .i64 a0_0] ?_
   with_reducible refine (impl_isAddr.calls a0_0 true _ A2.out).mono ?_
   rintro e w' ⟨rfl, ⟨nd, rfl⟩⟩
   refine ⟨_, rfl, ?_⟩
   refine hK.out _ _ ⟨(blk_cell BK272.out 0).trans rfl, (blk_cell BK272.out 1).trans rfl⟩ (fun hHeld => ?_)
   clear hK K
   refine nm 5 ?_
   refine pu 3 6 (bm 17 15) ?_
   refine pu 4 7 (bm 17 31) ?_
   refine tk 5 8 (bm 17 63) ?_
   refine on 6 (some 9) (bm 17 127) (fun K hK => ?_)
   refine gs Tryz.func17 #[.int .i64 a0_1, .int .i64 0, .int .i64 32] ?_
   with_reducible refine (impl_in.calls a0_1 0 32 false _ A4.out).mono ?_
   rintro e w' ⟨rfl, ⟨nd, rfl⟩⟩
   refine ⟨_, rfl, ?_⟩
   refine hK.out _ _ ⟨(blk_cell BK272.out 0).trans rfl, (blk_cell BK272.out 1).trans rfl⟩ (fun hHeld => ?_)
   clear hK K
   refine nm 9 ?_
   refine pu 7 10 (bm 17 255) ?_
   refine pu 8 11 (bm 17 511) ?_
   refine po 9 12 (bm 17 1023) ?_
   refine po 10 13 (bm 17 2047) ?_
   refine po 11 14 (bm 17 4095) ?_
   refine po 12 15 (bm 17 8191) ?_
   refine po 13 16 (bm 17 16383) ?_
   refine po 14 17 (bm 17 32767) ?_
   refine pu 15 18 (bm 17 65535) ?_
   refine pu 16 2 (bm 17 131071) ?_
   refine done_ (done_of HT_.out (by kernel_rfl)) ?_
   try go_wp2
   go_ret
   exact ⟨zz13, zz6 GE272⟩
 ·replace c3 := Bool.eq_false_iff.mpr c3
  subst c3
  have H1 : (some false) = some r := by rw [if_neg (show ¬ (false = true) by decide)] at H; exact H
  clear H
  have H := H1
  clear H1
  obtain rfl := Option.some.inj H
  go_enter Tryz.func40, Tryz.ntmps40
  try go_wp2_with (first | (refine be 1 #[.int .i64 a0_0, .int .i64 a0_1] 32 ?_; intro gb272 hg w13 hbox hb; have BK272 := Aside0.mk hbox; have GW272 := Aside0.mk (zz16 : w.heap.size ≤ gb272); have GE272 := Aside0.mk (zz16 : w.heap.size ≤ gb272); replace HB := Aside0.mk (below_step zz3 hb); clear hb hbox hg))
  replace BK272 := Aside0.mk (blk_drew BK272.out)
  replace HB := Aside0.mk (below_drew1 HB.out)
  refine start_ (n := 17) (S := fun w' => w'.cell? ⟨gb272, 0, none⟩ = some (.int .i64 a0_0) ∧ w'.cell? ⟨gb272, 1, none⟩ = some (.int .i64 a0_1)) (ds := []) (bm 17 0) (by kernel_rfl) rfl rfl ⟨(blk_cell BK272.out 0).trans rfl, (blk_cell BK272.out 1).trans rfl⟩ (fun hHeld => ?_); refine with_tabW impl_BlockOk.tab1 impl_BlockOk.bits1 (fun HT_ HW_ => ?_)
  generalize w13.drew = w14 at BK272 HB hHeld ⊢
  refine pu 0 3 (bm 17 1) ?_
  refine tk 1 4 (bm 17 3) ?_
  refine on 2 (some 5) (bm 17 7) (fun K hK => ?_)
  refine gs Tryz.func37 #[.int .i64 a0_0] ?_
  with_reducible refine (impl_isAddr.calls a0_0 false _ A2.out).mono ?_
  rintro e w' ⟨rfl, ⟨nd, rfl⟩⟩
  refine ⟨_, rfl, ?_⟩
  refine hK.out _ _ ⟨(blk_cell BK272.out 0).trans rfl, (blk_cell BK272.out 1).trans rfl⟩ (fun hHeld => ?_)
  clear hK K
  refine nm 5 ?_
  refine pu 3 6 (bm 17 15) ?_
  refine po 4 7 (bm 17 31) ?_
  refine po 5 8 (bm 17 63) ?_
  refine po 6 9 (bm 17 127) ?_
  refine pu 7 10 (bm 17 255) ?_
  refine pu 8 11 (bm 17 511) ?_
  refine po 9 12 (bm 17 1023) ?_
  refine po 10 13 (bm 17 2047) ?_
  refine po 11 14 (bm 17 4095) ?_
  refine po 12 15 (bm 17 8191) ?_
  refine po 13 16 (bm 17 16383) ?_
  refine po 14 17 (bm 17 32767) ?_
  refine pu 15 18 (bm 17 65535) ?_
  refine pu 16 2 (bm 17 131071) ?_
  refine done_ (done_of HT_.out (by kernel_rfl)) ?_
  try go_wp2
  go_ret
  exact ⟨zz13, zz6 GE272⟩
def cmp_Or_int.l0 : Nat → Int → List Int → Int → Int → Option (Int)
 | 0, _, _, _, _ => none
 | k + 1, x3, x6, x7, x8 => if x8 < x7 then (if 0 ≤ x8 then (if x8 < (x6.length : Int) then (if (rd x6 x8) = x3 then (cmp_Or_int.l0 k x3 x6 x7 (wrap64 (x8 + 1))) else (some (rd x6 x8))) else (none)) else (none)) else (some x3)
def cmp_Or_int.f (k : Nat) (l0 : List Int) : Option (Int) := cmp_Or_int.l0 k 0 l0 (l0.length : Int) 0
set_option maxHeartbeats 8000000 in
set_option maxRecDepth 100000 in
theorem cmp_Or_int.calls (k : Nat) (A0 : Option Addr) (c0 : Nat) (l0 : List Int) (r : Int) (w : World) (hr0 : Kd.C (Kd.int .i64) w A0 l0.length l0) (hc0 : l0.length ≤ c0) (h : cmp_Or_int.f k l0 = some r) :
  Calls Tryz.prog 58 #[.slice A0 l0.length c0] w fun e w' => e = .returned (.int .i64 r) ∧ Drawn0 w w' := by
 have HR0 := Aside0.mk hr0
 have HC0 := Aside0.mk hc0
 clear hr0 hc0
 have H : (cmp_Or_int.l0 k 0 l0 (l0.length : Int) 0) = some r := h
 clear h
 have H' := Aside0.mk H
 clear H
 go_enter Tryz.func58, Tryz.ntmps58
 go_wp2
 go_loopg [8] k (fun kq v8 w' => ∃ (x8_1 : Int), v8 = .int .i64 x8_1 ∧ Aside0 (cmp_Or_int.l0 kq 0 l0 (l0.length : Int) x8_1 = some r) ∧ Aside0 (kq ≤ k) ∧ Drawn0 w w')
 case atStart => exact ⟨(0), zz8, H', ⟨Nat.le_refl _⟩, zz14⟩
 case round =>
  clear H'
  obtain ⟨x8_1, rfl, HA, HK1, ⟨m1, rfl⟩⟩ := hrel
  cases gk with
  | zero => exact absurd HA.out (by simp [cmp_Or_int.l0])
  | succ k1 =>
   have H := HA.out
   clear HA
   simp only [cmp_Or_int.l0] at H
   replace H := ic H
   rcases H with ⟨c2b0, H⟩ | ⟨c2b0, H⟩
   ·replace H := gd H
    obtain ⟨c3b0, H⟩ := H
    replace H := gd H
    obtain ⟨c4b0, H⟩ := H
    by_cases c5 : (rd l0 x8_1) = 0
    ·rw [if_pos c5] at H
     have c5b0 : ((rd l0 x8_1) == 0) = true := beq_iff_eq.mpr c5
     have c5b1 : ((rd l0 x8_1) != 0) = false := bne_eq_false_iff_eq.mpr c5
     clear c5
     have H' := Aside0.mk H
     clear H
     have p276 : 0 ≤ (x8_1 : Int) := da
     have q276 : x8_1 < (l0.length : Int) := da
     obtain ⟨ad276, e276, hx276_0⟩ := Kd.at_int HR0.out x8_1 p276 q276
     cases e276
     replace p276 := eq_true p276
     replace q276 := eq_true q276
     go_wp2
     go_roundg k1
     case measure => have := HK1.out; omega
     case rel => exact ⟨(wrap64 (x8_1 + 1)), zz8, H', ⟨zz15 HK1⟩, zz14⟩
    ·rw [if_neg c5] at H
     have c5b0 : ((rd l0 x8_1) == 0) = false := beq_eq_false_iff_ne.mpr c5
     have c5b1 : ((rd l0 x8_1) != 0) = true := bne_iff_ne.mpr c5
     obtain rfl := Option.some.inj H
     have p276 : 0 ≤ (x8_1 : Int) := da
     have q276 : x8_1 < (l0.length : Int) := da
     obtain ⟨ad276, e276, hx276_0⟩ := Kd.at_int HR0.out x8_1 p276 q276
     cases e276
     replace p276 := eq_true p276
     replace q276 := eq_true q276
     go_wp2
     go_ret
     exact ⟨zz8, zz14⟩
   ·obtain rfl := Option.some.inj H
    go_wp2
    go_ret
    exact ⟨zz8, zz14⟩
def cmp_isNaN_int.f (a0 : Int) : Option (Bool) := some (a0 != a0)
set_option maxHeartbeats 8000000 in
set_option maxRecDepth 100000 in
theorem cmp_isNaN_int.calls (a0 : Int) (r : Bool) (w : World) (h : cmp_isNaN_int.f a0 = some r) :
  Calls Tryz.prog 73 #[.int .i64 a0] w fun e w' => e = .returned (.bool r) ∧ Drawn0 w w' := by
 have H : (some (a0 != a0)) = some r := h
 clear h
 obtain rfl := Option.some.inj H
 go_enter Tryz.func73, Tryz.ntmps73
 go_wp2
 go_ret
 exact ⟨zz8, zz14⟩
def cmp_Compare_int.f (a0 : Int) (a1 : Int) : Option (Int) := (cmp_isNaN_int.f a0).bind fun t277 => ((cmp_isNaN_int.f a1).bind fun t278 => (if t277 = true then (if t278 = true then (some 0) else (some (-1))) else (if t278 = true then (some 1) else (if a0 < a1 then (some (-1)) else (if a0 > a1 then (some 1) else (some 0))))))
set_option maxHeartbeats 8000000 in
set_option maxRecDepth 100000 in
theorem cmp_Compare_int.calls (a0 : Int) (a1 : Int) (r : Int) (w : World) (h : cmp_Compare_int.f a0 a1 = some r) :
  Calls Tryz.prog 59 #[.int .i64 a0, .int .i64 a1] w fun e w' => e = .returned (.int .i64 r) ∧ Drawn0 w w' := by
 have H : ((cmp_isNaN_int.f a0).bind fun t277 => ((cmp_isNaN_int.f a1).bind fun t278 => (if t277 = true then (if t278 = true then (some 0) else (some (-1))) else (if t278 = true then (some 1) else (if a0 < a1 then (some (-1)) else (if a0 > a1 then (some 1) else (some 0))))))) = some r := h
 clear h
 replace H := bd H
 obtain ⟨t277, A3, H⟩ := H
 replace H : ((cmp_isNaN_int.f a1).bind fun t278 => (if t277 = true then (if t278 = true then (some 0) else (some (-1))) else (if t278 = true then (some 1) else (if a0 < a1 then (some (-1)) else (if a0 > a1 then (some 1) else (some 0)))))) = some r := H
 replace H := bd H
 obtain ⟨t278, A4, H⟩ := H
 replace H : (if t277 = true then (if t278 = true then (some 0) else (some (-1))) else (if t278 = true then (some 1) else (if a0 < a1 then (some (-1)) else (if a0 > a1 then (some 1) else (some 0))))) = some r := H
 by_cases c5 : t277 = true
 ·subst c5
  have H1 : (if t278 = true then (some 0) else (some (-1))) = some r := by rw [if_pos rfl] at H; exact H
  clear H
  have H := H1
  clear H1
  by_cases c6 : t278 = true
  ·subst c6
   have H1 : (some 0) = some r := by rw [if_pos rfl] at H; exact H
   clear H
   have H := H1
   clear H1
   obtain rfl := Option.some.inj H
   go_enter Tryz.func59, Tryz.ntmps59
   go_wp2_with (first | (refine gc (some 8) Tryz.func73 #[.int .i64 a0] ?_; (with_reducible refine (cmp_isNaN_int.calls a0 true _ A3.out).mono ?_); rintro e w' ⟨rfl, ⟨nd, rfl⟩⟩; refine ⟨_, rfl, ?_⟩) | (refine gc (some 10) Tryz.func73 #[.int .i64 a1] ?_; (with_reducible refine (cmp_isNaN_int.calls a1 true _ A4.out).mono ?_); rintro e w' ⟨rfl, ⟨nd, rfl⟩⟩; refine ⟨_, rfl, ?_⟩))
   go_ret
   exact ⟨zz8, zz14⟩
  ·replace c6 := Bool.eq_false_iff.mpr c6
   subst c6
   have H1 : (some (-1)) = some r := by rw [if_neg (show ¬ (false = true) by decide)] at H; exact H
   clear H
   have H := H1
   clear H1
   obtain rfl := Option.some.inj H
   go_enter Tryz.func59, Tryz.ntmps59
   go_wp2_with (first | (refine gc (some 8) Tryz.func73 #[.int .i64 a0] ?_; (with_reducible refine (cmp_isNaN_int.calls a0 true _ A3.out).mono ?_); rintro e w' ⟨rfl, ⟨nd, rfl⟩⟩; refine ⟨_, rfl, ?_⟩) | (refine gc (some 10) Tryz.func73 #[.int .i64 a1] ?_; (with_reducible refine (cmp_isNaN_int.calls a1 false _ A4.out).mono ?_); rintro e w' ⟨rfl, ⟨nd, rfl⟩⟩; refine ⟨_, rfl, ?_⟩))
   go_ret
   exact ⟨zz8, zz14⟩
 ·replace c5 := Bool.eq_false_iff.mpr c5
  subst c5
  have H1 : (if t278 = true then (some 1) else (if a0 < a1 then (some (-1)) else (if a0 > a1 then (some 1) else (some 0)))) = some r := by rw [if_neg (show ¬ (false = true) by decide)] at H; exact H
  clear H
  have H := H1
  clear H1
  by_cases c7 : t278 = true
  ·subst c7
   have H1 : (some 1) = some r := by rw [if_pos rfl] at H; exact H
   clear H
   have H := H1
   clear H1
   obtain rfl := Option.some.inj H
   go_enter Tryz.func59, Tryz.ntmps59
   go_wp2_with (first | (refine gc (some 8) Tryz.func73 #[.int .i64 a0] ?_; (with_reducible refine (cmp_isNaN_int.calls a0 false _ A3.out).mono ?_); rintro e w' ⟨rfl, ⟨nd, rfl⟩⟩; refine ⟨_, rfl, ?_⟩) | (refine gc (some 10) Tryz.func73 #[.int .i64 a1] ?_; (with_reducible refine (cmp_isNaN_int.calls a1 true _ A4.out).mono ?_); rintro e w' ⟨rfl, ⟨nd, rfl⟩⟩; refine ⟨_, rfl, ?_⟩))
   go_ret
   exact ⟨zz8, zz14⟩
  ·replace c7 := Bool.eq_false_iff.mpr c7
   subst c7
   have H1 : (if a0 < a1 then (some (-1)) else (if a0 > a1 then (some 1) else (some 0))) = some r := by rw [if_neg (show ¬ (false = true) by decide)] at H; exact H
   clear H
   have H := H1
   clear H1
   replace H := ic H
   rcases H with ⟨c8b0, H⟩ | ⟨c8b0, H⟩
   ·obtain rfl := Option.some.inj H
    go_enter Tryz.func59, Tryz.ntmps59
    go_wp2_with (first | (refine gc (some 8) Tryz.func73 #[.int .i64 a0] ?_; (with_reducible refine (cmp_isNaN_int.calls a0 false _ A3.out).mono ?_); rintro e w' ⟨rfl, ⟨nd, rfl⟩⟩; refine ⟨_, rfl, ?_⟩) | (refine gc (some 10) Tryz.func73 #[.int .i64 a1] ?_; (with_reducible refine (cmp_isNaN_int.calls a1 false _ A4.out).mono ?_); rintro e w' ⟨rfl, ⟨nd, rfl⟩⟩; refine ⟨_, rfl, ?_⟩))
    go_ret
    exact ⟨zz8, zz14⟩
   ·replace H := ic H
    rcases H with ⟨c9b0, H⟩ | ⟨c9b0, H⟩
    ·obtain rfl := Option.some.inj H
     go_enter Tryz.func59, Tryz.ntmps59
     go_wp2_with (first | (refine gc (some 8) Tryz.func73 #[.int .i64 a0] ?_; (with_reducible refine (cmp_isNaN_int.calls a0 false _ A3.out).mono ?_); rintro e w' ⟨rfl, ⟨nd, rfl⟩⟩; refine ⟨_, rfl, ?_⟩) | (refine gc (some 10) Tryz.func73 #[.int .i64 a1] ?_; (with_reducible refine (cmp_isNaN_int.calls a1 false _ A4.out).mono ?_); rintro e w' ⟨rfl, ⟨nd, rfl⟩⟩; refine ⟨_, rfl, ?_⟩))
     go_ret
     exact ⟨zz8, zz14⟩
    ·obtain rfl := Option.some.inj H
     go_enter Tryz.func59, Tryz.ntmps59
     go_wp2_with (first | (refine gc (some 8) Tryz.func73 #[.int .i64 a0] ?_; (with_reducible refine (cmp_isNaN_int.calls a0 false _ A3.out).mono ?_); rintro e w' ⟨rfl, ⟨nd, rfl⟩⟩; refine ⟨_, rfl, ?_⟩) | (refine gc (some 10) Tryz.func73 #[.int .i64 a1] ?_; (with_reducible refine (cmp_isNaN_int.calls a1 false _ A4.out).mono ?_); rintro e w' ⟨rfl, ⟨nd, rfl⟩⟩; refine ⟨_, rfl, ?_⟩))
     go_ret
     exact ⟨zz8, zz14⟩
end Go.Proofs.YthkjkmgbdahggaaGreat.PY
