/- A text printed by this session's wip/myprint.py over the kit's print: contracts of functions of the given program, each at what its Lean function says. -/
import Derived.Test.YthkjkmgbdahggaaShelfB
import Derived.Test.YthkjkmgbdahggaaPOx0
import Derived.Test.YthkjkmgbdahggaaPOx2
import Derived.Test.YthkjkmgbdahggaaPOx3
import Derived.Test.YthkjkmgbdahggaaPOx7
import Derived.Test.YthkjkmgbdahggaaPOx9
import Derived.Test.YthkjkmgbdahggaaPOx10
import Derived.Test.YthkjkmgbdahggaaPOx11
namespace Go.Proofs.Ythkjkmgbdahggaa.PO
open Go.RowKit Go.Proofs.YthkjkmgbdahggaaW.PrintWords Go.Proofs.YthkjkmgbdahggaaW.PrintLast Go.Proofs.YthkjkmgbdahggaaW.PrintMore Go.Proofs.Ythkjkmgbdahggaa.Sq
attribute [local go_sem] max2_int min2_int max_two min_two max_three min_three max_four min_four   -- for this text's walks alone
set_option linter.unusedVariables false
set_option linter.unusedSimpArgs false

/-! ### spec_SetOf: function 22 -/
def spec_SetOf.f (k : Nat) (l0 : List (S40)) : Option ((List (S40)) × Bool) := (spec_l2Blocks.f k l0).bind fun t391 => (if t391 = true then ((spec_l2Spans.f k l0).bind fun t392 => ((spec_l2Cover.f k t392).bind fun t395 => ((spec_l2Room.f t395).bind fun bt398 => (some (bt398.1, bt398.2))))) else (some ((([] : List (S40))), false)))
theorem spec_SetOf.mono : ∀ a0 k, LeO (spec_SetOf.f k a0) (spec_SetOf.f (k + 1) a0) := by
 intro a0 k
 unfold spec_SetOf.f
 repeat' first
   | (with_reducible exact spec_l2Blocks.mono _ _)
   | (with_reducible exact spec_l2Cover.mono _ _)
   | (with_reducible exact spec_l2Spans.mono _ _)
   | (with_reducible exact LeO.refl _)
   | (with_reducible exact LeO.none _)
   | (with_reducible refine LeO.ite ?_ ?_)
   | (with_reducible refine LeO.bind ?_ (fun _ => ?_))
   | exact spec_l2Blocks.mono _ _
   | exact spec_l2Cover.mono _ _
   | exact spec_l2Spans.mono _ _
   | exact LeO.none _
   | refine LeO.ite ?_ ?_
   | refine LeO.bind ?_ (fun _ => ?_)
set_option maxHeartbeats 8000000 in
set_option maxRecDepth 100000 in
theorem spec_SetOf.calls (k : Nat) (A0 : Option Addr) (c0 : Nat) (l0 : List (S40)) (r1 : List (S40)) (r2 : Bool) (w : World) (hr0 : Kd.C k40 w A0 l0.length l0) (hc0 : l0.length ≤ c0) (h : spec_SetOf.f k l0 = some (r1, r2)) :
  Calls Try.prog 22 #[.slice A0 l0.length c0] w fun e w' => ∃ v0_ : Value, e = .returned (.tuple #[v0_, .bool r2]) ∧ Kd.R k40 40 w' w.heap.size (fun _ => True) v0_ r1 ∧ Below w.heap.size w w' := by
 have HR0 := Aside0.mk hr0
 have HC0 := Aside0.mk hc0
 clear hr0 hc0
 have HB := Aside0.mk (Below.refl w.heap.size w)
 have H : ((spec_l2Blocks.f k l0).bind fun t391 => (if t391 = true then ((spec_l2Spans.f k l0).bind fun t392 => ((spec_l2Cover.f k t392).bind fun t395 => ((spec_l2Room.f t395).bind fun bt398 => (some (bt398.1, bt398.2))))) else (some ((([] : List (S40))), false)))) = some (r1, r2) := h
 clear h
 replace H := bd H
 obtain ⟨t391, A2, H⟩ := H
 replace H : (if t391 = true then ((spec_l2Spans.f k l0).bind fun t392 => ((spec_l2Cover.f k t392).bind fun t395 => ((spec_l2Room.f t395).bind fun bt398 => (some (bt398.1, bt398.2))))) else (some ((([] : List (S40))), false))) = some (r1, r2) := H
 by_cases c3 : t391 = true
 ·subst c3
  have H1 : ((spec_l2Spans.f k l0).bind fun t392 => ((spec_l2Cover.f k t392).bind fun t395 => ((spec_l2Room.f t395).bind fun bt398 => (some (bt398.1, bt398.2))))) = some (r1, r2) := by rw [if_pos rfl] at H; exact H
  clear H
  have H := H1
  clear H1
  replace H := bd H
  obtain ⟨t392, A4, H⟩ := H
  replace H : ((spec_l2Cover.f k t392).bind fun t395 => ((spec_l2Room.f t395).bind fun bt398 => (some (bt398.1, bt398.2)))) = some (r1, r2) := H
  replace H := bd H
  obtain ⟨t395, A5, H⟩ := H
  replace H : ((spec_l2Room.f t395).bind fun bt398 => (some (bt398.1, bt398.2))) = some (r1, r2) := H
  replace H := bd H
  obtain ⟨⟨t398, t401⟩, A6, H⟩ := H
  replace H : (some (t398, t401)) = some (r1, r2) := H
  simp only [Option.some.injEq, Prod.mk.injEq] at H
  obtain ⟨rfl, rfl⟩ := H
  go_enter Try.func22, Try.ntmps22
  go_wp2_with (first | (refine gc (some 5) Try.func65 #[.slice A0 l0.length c0] ?_; (with_reducible refine (spec_l2Blocks.calls k _ _ l0 true _ ?side1 ?side2 A2.out).mono ?_); (case side1 => exact zz9 HR0); (case side2 => exact HC0.out); rintro e w7 ⟨rfl, hb⟩; refine ⟨_, rfl, ?_⟩; replace HB := Aside0.mk (below_step zz5 hb); clear hb) | (refine gc (some 9) Try.func67 #[.slice A0 l0.length c0] ?_; (with_reducible refine (spec_l2Spans.calls k _ _ l0 t392 _ ?side1 ?side2 A4.out).mono ?_); (case side1 => exact zz21 HR0); (case side2 => exact HC0.out); rintro e w8 ⟨v393, rfl, ho0, hb⟩; refine ⟨_, rfl, ?_⟩; have HO394 := Aside0.mk (Kd.R_lower ho0 (below_size zz5)); replace HB := Aside0.mk (below_step zz5 hb); clear hb ho0; obtain ⟨Ao9, co9, eo9⟩ := Kd.R_slice HO394.out; subst eo9) | (refine gc (some 10) Try.func49 #[.slice Ao9 t392.length co9] ?_; (with_reducible refine (spec_l2Cover.calls k _ _ t392 t395 _ ?side1 ?side2 A5.out).mono ?_); (case side1 => exact zz19 HO394); (case side2 => exact zz22 HO394); rintro e w10 ⟨v396, rfl, ho0, hb⟩; refine ⟨_, rfl, ?_⟩; replace HO394 := Aside0.mk (Kd.R_below (zz12 HO394) hb); have HO397 := Aside0.mk (Kd.R_lower ho0 (below_size zz5)); replace HB := Aside0.mk (below_step zz5 hb); clear hb ho0; obtain ⟨Ao11, co11, eo11⟩ := Kd.R_slice HO397.out; subst eo11) | (refine gc (some 11) Try.func66 #[.slice Ao11 t395.length co11] ?_; (with_reducible refine (spec_l2Room.calls (fun k_ => some k_ = (.slice Ao11 t395.length co11 : Value).ownBlock) (.slice Ao11 t395.length co11) t395 t398 t401 w _ ?side1 ?side2 A6.out).mono ?_); (case side1 => exact zz5); (case side2 => exact Kd.R_tight rfl HO397.out); rintro e w12 ⟨v399, rfl, ho0, hb, hkp⟩; refine ⟨_, rfl, ?_⟩; replace HO394 := Aside0.mk (Kd.R_mono (ok' := fun k_ => True) (Kd.R_keptB ((Kd.R_apart' HO394.out (Kd.R_typed HO397.out) (by decide))) hkp (fun k_ hk_ hs_ => (hk_.2) hs_)) (fun k_ hk_ => trivial)); have HO400 := Aside0.mk (Kd.R_mono (ok' := fun k_ => True) ho0 (fun k_ hk_ => trivial)); replace HB := Aside0.mk hb; clear HO397 hb hkp ho0))
  go_ret2
  exact ⟨_, zz8, zz12 HO400, zz5⟩
 ·replace c3 := Bool.eq_false_iff.mpr c3
  subst c3
  have H1 : (some ((([] : List (S40))), false)) = some (r1, r2) := by rw [if_neg (show ¬ (false = true) by decide)] at H; exact H
  clear H
  have H := H1
  clear H1
  obtain ⟨y402, hy402⟩ : ∃ y_ : List (S40), y_ = (([] : List (S40))) := ⟨_, rfl⟩
  replace H : (some (y402, false)) = some (r1, r2) := by first | (rw [hy402]; with_reducible exact H) | (have H2_ := (Option.bind_some _ _).symm.trans H; rw [hy402]; with_reducible exact H2_) | (have H2_ := (Option.bind_some _ _).symm.trans H; with_reducible exact H2_) | with_reducible exact H | (rw [hy402]; exact H) | exact H
  have Ny402 := Aside0.mk hy402
  clear hy402
  simp only [Option.some.injEq, Prod.mk.injEq] at H
  obtain ⟨rfl, rfl⟩ := H
  go_enter Try.func22, Try.ntmps22
  go_wp2_with (first | (refine gc (some 5) Try.func65 #[.slice A0 l0.length c0] ?_; (with_reducible refine (spec_l2Blocks.calls k _ _ l0 false _ ?side1 ?side2 A2.out).mono ?_); (case side1 => exact zz9 HR0); (case side2 => exact HC0.out); rintro e w13 ⟨rfl, hb⟩; refine ⟨_, rfl, ?_⟩; replace HB := Aside0.mk (below_step zz5 hb); clear hb) | (refine gt 7 ?_; refine rl k40 40 7 ([] : List (S40)) [] ?hp ?_; (case hp => exact zz33); intro v403 w14 ho15 hb hg_ hnew_; clear hg_ hnew_; (first | rw [← Ny402.out] at ho15 | (simp only [Int.reduceToNat] at ho15; rw [← Ny402.out] at ho15)); have HO404 := Aside0.mk (Kd.R_lower ho15 (below_size zz5)); replace HB := Aside0.mk (below_step zz5 hb); clear hb ho15))
  go_ret2
  exact ⟨_, zz8, zz12 HO404, zz5⟩

/-! ### impl_BlockSize: function 23 -/
def impl_BlockSize.f (a0_0 : Int) (a0_1 : Int) : Option (Int) := (impl_BlockOk.f a0_0 a0_1).bind fun t406 => (if t406 = true then ((impl_Block_size.f a0_0 a0_1).bind fun t407 => (some t407)) else (some 0))
set_option maxHeartbeats 8000000 in
set_option maxRecDepth 100000 in
theorem impl_BlockSize.calls (a0_0 : Int) (a0_1 : Int) (r : Int) (w : World) (h : impl_BlockSize.f a0_0 a0_1 = some r) :
  Calls Try.prog 23 #[.agg #[.int .i64 a0_0, .int .i64 a0_1]] w fun e w' => e = .returned (.int .i64 r) ∧ Below w.heap.size w w' := by
 have hu40 := Try.underlying40
 have HB := Aside0.mk (Below.refl w.heap.size w)
 have H : ((impl_BlockOk.f a0_0 a0_1).bind fun t406 => (if t406 = true then ((impl_Block_size.f a0_0 a0_1).bind fun t407 => (some t407)) else (some 0))) = some r := h
 clear h
 replace H := bd H
 obtain ⟨t406, A2, H⟩ := H
 replace H : (if t406 = true then ((impl_Block_size.f a0_0 a0_1).bind fun t407 => (some t407)) else (some 0)) = some r := H
 by_cases c3 : t406 = true
 ·subst c3
  have H1 : ((impl_Block_size.f a0_0 a0_1).bind fun t407 => (some t407)) = some r := by rw [if_pos rfl] at H; exact H
  clear H
  have H := H1
  clear H1
  replace H := bd H
  obtain ⟨t407, A4, H⟩ := H
  replace H : (some t407) = some r := H
  obtain rfl := Option.some.inj H
  go_enter Try.func23, Try.ntmps23
  go_wp2_with (first | (refine be 1 #[.int .i64 a0_0, .int .i64 a0_1] 40 ?_; intro gb405 hg w5 hbox hb; have BK405 := Aside0.mk hbox; have GW405 := Aside0.mk (zz4 : w.heap.size ≤ gb405); have GE405 := Aside0.mk (zz4 : w.heap.size ≤ gb405); replace HB := Aside0.mk (below_step zz5 hb); clear hb hbox hg; have hcz6_0 : w5.cell? ⟨gb405, 0, none⟩ = some (.int .i64 a0_0) := (blk_cell BK405.out 0).trans rfl; have hcz6_1 : w5.cell? ⟨gb405, 1, none⟩ = some (.int .i64 a0_1) := (blk_cell BK405.out 1).trans rfl; have hfz6_0 := blk_frozen BK405.out 0; have hfz6_1 := blk_frozen BK405.out 1) | (refine gc (some 4) Try.func68 #[.agg #[.int .i64 a0_0, .int .i64 a0_1]] ?_; (with_reducible refine (impl_BlockOk.calls a0_0 a0_1 true _ A2.out).mono ?_); rintro e w7 ⟨rfl, hb⟩; refine ⟨_, rfl, ?_⟩; replace BK405 := Aside0.mk (blk_below (g := gb405) (o := .cells #[.int .i64 a0_0, .int .i64 a0_1] 40 (0, 0)) (zz7 BK405) hb); replace HB := Aside0.mk (below_step (zz6 GE405) hb); clear hb; have hcz8_0 : w7.cell? ⟨gb405, 0, none⟩ = some (.int .i64 a0_0) := (blk_cell BK405.out 0).trans rfl; have hcz8_1 : w7.cell? ⟨gb405, 1, none⟩ = some (.int .i64 a0_1) := (blk_cell BK405.out 1).trans rfl; have hfz8_0 := blk_frozen BK405.out 0; have hfz8_1 := blk_frozen BK405.out 1) | (refine gc (some 7) Try.func54 #[.agg #[.int .i64 a0_0, .int .i64 a0_1]] ?_; (with_reducible refine (impl_Block_size.calls a0_0 a0_1 t407 _ A4.out).mono ?_); rintro e w9 ⟨rfl, hb⟩; refine ⟨_, rfl, ?_⟩; replace BK405 := Aside0.mk (blk_below (g := gb405) (o := .cells #[.int .i64 a0_0, .int .i64 a0_1] 40 (0, 0)) (zz7 BK405) hb); replace HB := Aside0.mk (below_step (zz6 GE405) hb); clear hb))
  go_ret
  exact ⟨zz8, zz6 GE405⟩
 ·replace c3 := Bool.eq_false_iff.mpr c3
  subst c3
  have H1 : (some 0) = some r := by rw [if_neg (show ¬ (false = true) by decide)] at H; exact H
  clear H
  have H := H1
  clear H1
  obtain rfl := Option.some.inj H
  go_enter Try.func23, Try.ntmps23
  go_wp2_with (first | (refine be 1 #[.int .i64 a0_0, .int .i64 a0_1] 40 ?_; intro gb405 hg w10 hbox hb; have BK405 := Aside0.mk hbox; have GW405 := Aside0.mk (zz4 : w.heap.size ≤ gb405); have GE405 := Aside0.mk (zz4 : w.heap.size ≤ gb405); replace HB := Aside0.mk (below_step zz5 hb); clear hb hbox hg; have hcz11_0 : w10.cell? ⟨gb405, 0, none⟩ = some (.int .i64 a0_0) := (blk_cell BK405.out 0).trans rfl; have hcz11_1 : w10.cell? ⟨gb405, 1, none⟩ = some (.int .i64 a0_1) := (blk_cell BK405.out 1).trans rfl; have hfz11_0 := blk_frozen BK405.out 0; have hfz11_1 := blk_frozen BK405.out 1) | (refine gc (some 4) Try.func68 #[.agg #[.int .i64 a0_0, .int .i64 a0_1]] ?_; (with_reducible refine (impl_BlockOk.calls a0_0 a0_1 false _ A2.out).mono ?_); rintro e w12 ⟨rfl, hb⟩; refine ⟨_, rfl, ?_⟩; replace BK405 := Aside0.mk (blk_below (g := gb405) (o := .cells #[.int .i64 a0_0, .int .i64 a0_1] 40 (0, 0)) (zz7 BK405) hb); replace HB := Aside0.mk (below_step (zz6 GE405) hb); clear hb))
  go_ret
  exact ⟨zz8, zz6 GE405⟩

/-! ### bits_Len32: function 95 -/
def bits_Len32.f (a0 : Int) : Option Int := if 0 ≤ a0 ∧ a0 ≤ 4294967295 then some ((Lib.bitLen a0.toNat : Nat) : Int) else none
theorem bits_Len32.calls (a0 : Int) (r : Int) (w : World) (h : bits_Len32.f a0 = some r) :
 Calls Try.prog 95 #[.int .u32 a0] w fun e w' => e = .returned (.int .i64 r) ∧ Drawn0 w w' := by
 unfold bits_Len32.f at h
 split at h
 ·rename_i hx
  obtain rfl := Option.some.inj h
  exact (Any.bits_Len32 Try.lays128 a0 w hx.1 hx.2).mono fun e w' ⟨he, hw⟩ => ⟨he, hw ▸ Drawn0.refl _⟩
 ·cases h

/-! ### bits_LeadingZeros32: function 69 -/
def bits_LeadingZeros32.f (a0 : Int) : Option (Int) := (bits_Len32.f a0).bind fun t408 => (some (wrap64 (32 - t408)))
set_option maxHeartbeats 8000000 in
set_option maxRecDepth 100000 in
theorem bits_LeadingZeros32.calls (a0 : Int) (r : Int) (w : World) (h : bits_LeadingZeros32.f a0 = some r) :
  Calls Try.prog 69 #[.int .u32 a0] w fun e w' => e = .returned (.int .i64 r) ∧ Drawn0 w w' := by
 have H : ((bits_Len32.f a0).bind fun t408 => (some (wrap64 (32 - t408)))) = some r := h
 clear h
 replace H := bd H
 obtain ⟨t408, A2, H⟩ := H
 replace H : (some (wrap64 (32 - t408))) = some r := H
 obtain rfl := Option.some.inj H
 go_enter Try.func69, Try.ntmps69
 go_wp2_with (first | (refine gc (some 4) Try.func95 #[.int .u32 a0] ?_; (with_reducible refine (bits_Len32.calls a0 t408 _ A2.out).mono ?_); rintro e w' ⟨rfl, ⟨nd, rfl⟩⟩; refine ⟨_, rfl, ?_⟩))
 go_ret
 exact ⟨zz1, zz2⟩

/-! ### impl_BlockOver: function 24 -/
def impl_BlockOver.j0 : Nat → Bool → Int → Int → Int → Int → Option (Int × Int)
 | 0, _, _, _, _, _ => none
 | k + 1, x13, x410000, x410001, x411000, x411001 => if x13 = true then (some (0, 0)) else ((bits_LeadingZeros32.f ((Go.bits .xor .i64 x410000 x411000) % 4294967296)).bind fun t414 => ((impl_around.f x410000 (mn (mn t414 x410001) x411001)).bind fun bt415 => (some (bt415.1, bt415.2))))
def impl_BlockOver.f (k : Nat) (a0_0 : Int) (a0_1 : Int) (a1_0 : Int) (a1_1 : Int) : Option (Int × Int) := (impl_BlockOk.f a0_0 a0_1).bind fun t412 => (if t412 = true then ((impl_BlockOk.f a1_0 a1_1).bind fun t413 => (impl_BlockOver.j0 k (!t413) a0_0 a0_1 a1_0 a1_1)) else (impl_BlockOver.j0 k true a0_0 a0_1 a1_0 a1_1))
theorem impl_BlockOver.mono_l : ∀ k, (∀ y0 y1 y2 y3 y4, LeO (impl_BlockOver.j0 k y0 y1 y2 y3 y4) (impl_BlockOver.j0 (k + 1) y0 y1 y2 y3 y4))
 | 0 => fun _ _ _ _ _ r h => by simp [impl_BlockOver.j0] at h
 | k + 1 => by
  have ih0 := impl_BlockOver.mono_l k
  ·intro y0 y1 y2 y3 y4
   unfold impl_BlockOver.j0
   repeat' first
   | (with_reducible exact ih0 _ _ _ _ _)
   | (with_reducible exact LeO.refl _)
   | (with_reducible exact LeO.none _)
   | (with_reducible refine LeO.ite ?_ ?_)
   | (with_reducible refine LeO.bind ?_ (fun _ => ?_))
   | exact ih0 _ _ _ _ _
   | exact LeO.none _
   | refine LeO.ite ?_ ?_
   | refine LeO.bind ?_ (fun _ => ?_)
theorem impl_BlockOver.mono : ∀ a0 a1 a2 a3 k, LeO (impl_BlockOver.f k a0 a1 a2 a3) (impl_BlockOver.f (k + 1) a0 a1 a2 a3) := by
 intro a0 a1 a2 a3 k
 have ih0 := impl_BlockOver.mono_l k
 unfold impl_BlockOver.f
 repeat' first
   | (with_reducible exact ih0 _ _ _ _ _)
   | (with_reducible exact LeO.refl _)
   | (with_reducible exact LeO.none _)
   | (with_reducible refine LeO.ite ?_ ?_)
   | (with_reducible refine LeO.bind ?_ (fun _ => ?_))
   | exact ih0 _ _ _ _ _
   | exact LeO.none _
   | refine LeO.ite ?_ ?_
   | refine LeO.bind ?_ (fun _ => ?_)
set_option maxHeartbeats 8000000 in
set_option maxRecDepth 100000 in
theorem impl_BlockOver.calls (k : Nat) (a0_0 : Int) (a0_1 : Int) (a1_0 : Int) (a1_1 : Int) (r1 : Int) (r2 : Int) (w : World) (h : impl_BlockOver.f k a0_0 a0_1 a1_0 a1_1 = some (r1, r2)) :
  Calls Try.prog 24 #[.agg #[.int .i64 a0_0, .int .i64 a0_1], .agg #[.int .i64 a1_0, .int .i64 a1_1]] w fun e w' => e = .returned (.agg #[.int .i64 r1, .int .i64 r2]) ∧ Below w.heap.size w w' := by
 have hu40 := Try.underlying40
 have HB := Aside0.mk (Below.refl w.heap.size w)
 have H : ((impl_BlockOk.f a0_0 a0_1).bind fun t412 => (if t412 = true then ((impl_BlockOk.f a1_0 a1_1).bind fun t413 => (impl_BlockOver.j0 k (!t413) a0_0 a0_1 a1_0 a1_1)) else (impl_BlockOver.j0 k true a0_0 a0_1 a1_0 a1_1))) = some (r1, r2) := h
 clear h
 have HC3 := Aside0.mk H
 clear H
 go_enter Try.func24, Try.ntmps24
 go_upto_region 1 with (first | (refine be 2 #[.int .i64 a0_0, .int .i64 a0_1] 40 ?_; intro gb409 hg w4 hbox hb; have BK409 := Aside0.mk hbox; have GW409 := Aside0.mk (zz4 : w.heap.size ≤ gb409); have GE409 := Aside0.mk (zz4 : w.heap.size ≤ gb409); replace HB := Aside0.mk (below_step zz5 hb); clear hb hbox hg) | (refine be 3 #[.int .i64 a1_0, .int .i64 a1_1] 40 ?_; intro gb410 hg w5 hbox hb; have BK410 := Aside0.mk hbox; have GW410 := Aside0.mk (zz15 GE409 : w.heap.size ≤ gb410); have GE410 := Aside0.mk (zz15 GE409 : w.heap.size ≤ gb410); replace HB := Aside0.mk (below_step (zz6 GE409) hb); have NB409_410 := Aside0.mk (by rw [hg]; exact Nat.ne_of_lt (blk_lt (g := gb409) (o := .cells #[.int .i64 a0_0, .int .i64 a0_1] 40 (0, 0)) (zz7 BK409)) : gb409 ≠ gb410); have NB410_409 := Aside0.mk (by rw [hg]; exact Nat.ne_of_gt (blk_lt (g := gb409) (o := .cells #[.int .i64 a0_0, .int .i64 a0_1] 40 (0, 0)) (zz7 BK409)) : gb410 ≠ gb409); replace BK409 := Aside0.mk (blk_below (g := gb409) (o := .cells #[.int .i64 a0_0, .int .i64 a0_1] 40 (0, 0)) (zz7 BK409) hb); clear hb hbox hg) | (refine be 4 #[.int .i64 0, .int .i64 0] 40 ?_; intro gb411 hg w6 hbox hb; have BK411 := Aside0.mk hbox; have GW411 := Aside0.mk (zz59 GE409 GE410 : w.heap.size ≤ gb411); have GE411 := Aside0.mk (zz59 GE409 GE410 : w.heap.size ≤ gb411); replace HB := Aside0.mk (below_step (zz16 GE409 GE410) hb); have NB409_411 := Aside0.mk (by rw [hg]; exact Nat.ne_of_lt (blk_lt (g := gb409) (o := .cells #[.int .i64 a0_0, .int .i64 a0_1] 40 (0, 0)) (zz7 BK409)) : gb409 ≠ gb411); have NB411_409 := Aside0.mk (by rw [hg]; exact Nat.ne_of_gt (blk_lt (g := gb409) (o := .cells #[.int .i64 a0_0, .int .i64 a0_1] 40 (0, 0)) (zz7 BK409)) : gb411 ≠ gb409); replace BK409 := Aside0.mk (blk_below (g := gb409) (o := .cells #[.int .i64 a0_0, .int .i64 a0_1] 40 (0, 0)) (zz7 BK409) hb); have NB410_411 := Aside0.mk (by rw [hg]; exact Nat.ne_of_lt (blk_lt (g := gb410) (o := .cells #[.int .i64 a1_0, .int .i64 a1_1] 40 (0, 0)) (zz7 BK410)) : gb410 ≠ gb411); have NB411_410 := Aside0.mk (by rw [hg]; exact Nat.ne_of_gt (blk_lt (g := gb410) (o := .cells #[.int .i64 a1_0, .int .i64 a1_1] 40 (0, 0)) (zz7 BK410)) : gb411 ≠ gb410); replace BK410 := Aside0.mk (blk_below (g := gb410) (o := .cells #[.int .i64 a1_0, .int .i64 a1_1] 40 (0, 0)) (zz7 BK410) hb); clear hb hbox hg))
 (try simp only [Act.put, List.setIfInBounds_toArray, List.set_cons_zero, List.set_cons_succ])
 go_cut [13] (fun v13 wc => ∃ (kq : Nat) (x13_2 : Bool), v13 = .bool x13_2 ∧ Aside0 (impl_BlockOver.j0 kq x13_2 a0_0 a0_1 a1_0 a1_1 = some (r1, r2)) ∧ Aside0 (kq ≤ k) ∧ Aside0 (wc.heap[gb409]? = some (.cells #[.int .i64 a0_0, .int .i64 a0_1] 40 (0, 0))) ∧ Aside0 (wc.heap[gb410]? = some (.cells #[.int .i64 a1_0, .int .i64 a1_1] 40 (0, 0))) ∧ Aside0 (wc.heap[gb411]? = some (.cells #[.int .i64 0, .int .i64 0] 40 (0, 0))) ∧ Aside0 (Below w.heap.size w wc))
 case first =>
  have H := HC3.out
  clear HC3
  replace H := bd H
  obtain ⟨t412, A7, H⟩ := H
  replace H : (if t412 = true then ((impl_BlockOk.f a1_0 a1_1).bind fun t413 => (impl_BlockOver.j0 k (!t413) a0_0 a0_1 a1_0 a1_1)) else (impl_BlockOver.j0 k true a0_0 a0_1 a1_0 a1_1)) = some (r1, r2) := H
  by_cases c8 : t412 = true
  ·subst c8
   have H1 : ((impl_BlockOk.f a1_0 a1_1).bind fun t413 => (impl_BlockOver.j0 k (!t413) a0_0 a0_1 a1_0 a1_1)) = some (r1, r2) := by rw [if_pos rfl] at H; exact H
   clear H
   have H := H1
   clear H1
   replace H := bd H
   obtain ⟨t413, A9, H⟩ := H
   replace H : (impl_BlockOver.j0 k (!t413) a0_0 a0_1 a1_0 a1_1) = some (r1, r2) := H
   have H' := Aside0.mk H
   clear H
   have hnb10 := NB409_410.out
   have hnc10 := NB410_409.out
   have hnb11 := NB409_411.out
   have hnc11 := NB411_409.out
   have hcz12_0 : w6.cell? ⟨gb409, 0, none⟩ = some (.int .i64 a0_0) := (blk_cell BK409.out 0).trans rfl
   have hcz12_1 : w6.cell? ⟨gb409, 1, none⟩ = some (.int .i64 a0_1) := (blk_cell BK409.out 1).trans rfl
   have hfz12_0 := blk_frozen BK409.out 0
   have hfz12_1 := blk_frozen BK409.out 1
   go_wp2_with (first | (refine gc (some 7) Try.func68 #[.agg #[.int .i64 a0_0, .int .i64 a0_1]] ?_; (with_reducible refine (impl_BlockOk.calls a0_0 a0_1 true _ A7.out).mono ?_); rintro e w13 ⟨rfl, hb⟩; refine ⟨_, rfl, ?_⟩; replace BK409 := Aside0.mk (blk_below (g := gb409) (o := .cells #[.int .i64 a0_0, .int .i64 a0_1] 40 (0, 0)) (zz7 BK409) hb); replace BK410 := Aside0.mk (blk_below (g := gb410) (o := .cells #[.int .i64 a1_0, .int .i64 a1_1] 40 (0, 0)) (zz7 BK410) hb); replace BK411 := Aside0.mk (blk_below (g := gb411) (o := .cells #[.int .i64 0, .int .i64 0] 40 (0, 0)) (zz7 BK411) hb); replace HB := Aside0.mk (below_step (zz60 GE409 GE410 GE411) hb); clear hb; have hnb14 := NB410_411.out; have hnc14 := NB411_410.out; have hcz15_0 : w13.cell? ⟨gb410, 0, none⟩ = some (.int .i64 a1_0) := (blk_cell BK410.out 0).trans rfl; have hcz15_1 : w13.cell? ⟨gb410, 1, none⟩ = some (.int .i64 a1_1) := (blk_cell BK410.out 1).trans rfl; have hfz15_0 := blk_frozen BK410.out 0; have hfz15_1 := blk_frozen BK410.out 1) | (go_at_call 68; (with_reducible refine (impl_BlockOk.calls a1_0 a1_1 t413 _ A9.out).mono ?_); rintro e w16 ⟨rfl, hb⟩; replace BK409 := Aside0.mk (blk_below (g := gb409) (o := .cells #[.int .i64 a0_0, .int .i64 a0_1] 40 (0, 0)) (zz7 BK409) hb); replace BK410 := Aside0.mk (blk_below (g := gb410) (o := .cells #[.int .i64 a1_0, .int .i64 a1_1] 40 (0, 0)) (zz7 BK410) hb); replace BK411 := Aside0.mk (blk_below (g := gb411) (o := .cells #[.int .i64 0, .int .i64 0] 40 (0, 0)) (zz7 BK411) hb); replace HB := Aside0.mk (below_step (zz60 GE409 GE410 GE411) hb); clear hb))
   go_meet
   case rel => exact ⟨_, (!t413), zz1, H', ⟨zz25⟩, ⟨zz7 BK409⟩, ⟨zz7 BK410⟩, ⟨zz7 BK411⟩, ⟨zz60 GE409 GE410 GE411⟩⟩
  ·replace c8 := Bool.eq_false_iff.mpr c8
   subst c8
   have H1 : (impl_BlockOver.j0 k true a0_0 a0_1 a1_0 a1_1) = some (r1, r2) := by rw [if_neg (show ¬ (false = true) by decide)] at H; exact H
   clear H
   have H := H1
   clear H1
   have H' := Aside0.mk H
   clear H
   have hnb17 := NB409_410.out
   have hnc17 := NB410_409.out
   have hnb18 := NB409_411.out
   have hnc18 := NB411_409.out
   have hcz19_0 : w6.cell? ⟨gb409, 0, none⟩ = some (.int .i64 a0_0) := (blk_cell BK409.out 0).trans rfl
   have hcz19_1 : w6.cell? ⟨gb409, 1, none⟩ = some (.int .i64 a0_1) := (blk_cell BK409.out 1).trans rfl
   have hfz19_0 := blk_frozen BK409.out 0
   have hfz19_1 := blk_frozen BK409.out 1
   go_wp2_with (first | (refine gc (some 7) Try.func68 #[.agg #[.int .i64 a0_0, .int .i64 a0_1]] ?_; (with_reducible refine (impl_BlockOk.calls a0_0 a0_1 false _ A7.out).mono ?_); rintro e w20 ⟨rfl, hb⟩; refine ⟨_, rfl, ?_⟩; replace BK409 := Aside0.mk (blk_below (g := gb409) (o := .cells #[.int .i64 a0_0, .int .i64 a0_1] 40 (0, 0)) (zz7 BK409) hb); replace BK410 := Aside0.mk (blk_below (g := gb410) (o := .cells #[.int .i64 a1_0, .int .i64 a1_1] 40 (0, 0)) (zz7 BK410) hb); replace BK411 := Aside0.mk (blk_below (g := gb411) (o := .cells #[.int .i64 0, .int .i64 0] 40 (0, 0)) (zz7 BK411) hb); replace HB := Aside0.mk (below_step (zz60 GE409 GE410 GE411) hb); clear hb))
   go_meet
   case rel => exact ⟨_, (true), zz1, H', ⟨zz25⟩, ⟨zz7 BK409⟩, ⟨zz7 BK410⟩, ⟨zz7 BK411⟩, ⟨zz60 GE409 GE410 GE411⟩⟩
 case rest =>
  clear HC3
  try clear c1
  try clear c2
  try clear p2
  try clear c6
  try clear c8
  try clear c10
  try clear c11
  try clear c14
  try clear c17
  try clear c18
  try clear hcz12_0
  try clear hcz12_1
  try clear hcz15_0
  try clear hcz15_1
  try clear hcz19_0
  try clear hcz19_1
  try clear hfz12_0
  try clear hfz12_1
  try clear hfz15_0
  try clear hfz15_1
  try clear hfz19_0
  try clear hfz19_1
  obtain ⟨kq, x13_2, rfl, HA, HJ2, BK409, BK410, BK411, HB⟩ := hcut
  cases kq with
  | zero => exact absurd HA.out (by simp [impl_BlockOver.j0])
  | succ kj2 =>
   have H := HA.out
   clear HA
   simp only [impl_BlockOver.j0] at H
   by_cases c21 : x13_2 = true
   ·subst c21
    have H1 : (some (0, 0)) = some (r1, r2) := by rw [if_pos rfl] at H; exact H
    clear H
    have H := H1
    clear H1
    simp only [Option.some.injEq, Prod.mk.injEq] at H
    obtain ⟨rfl, rfl⟩ := H
    have hnb22 := NB411_409.out
    have hnc22 := NB409_411.out
    have hnb23 := NB411_410.out
    have hnc23 := NB410_411.out
    have hcz24_0 : wc.cell? ⟨gb411, 0, none⟩ = some (.int .i64 0) := (blk_cell BK411.out 0).trans rfl
    have hcz24_1 : wc.cell? ⟨gb411, 1, none⟩ = some (.int .i64 0) := (blk_cell BK411.out 1).trans rfl
    have hfz24_0 := blk_frozen BK411.out 0
    have hfz24_1 := blk_frozen BK411.out 1
    go_wp2
    refine bodyPost_ret (results_cell_row rfl _ _ gb411 40 #[.int .i64 0, .int .i64 0] (0, 0) _ rfl (by (with_reducible repeat (first | refine blk_drewN ?_ _ | refine blk_drew ?_ | refine blk_alloc ?_ _)); refine blk_put (cs := #[.int .i64 0, .int .i64 0]) ?_ 1 _ rfl; (with_reducible repeat (first | refine blk_drewN ?_ _ | refine blk_drew ?_ | refine blk_alloc ?_ _)); refine blk_put (cs := #[.int .i64 0, .int .i64 0]) ?_ 0 _ rfl; (with_reducible repeat (first | refine blk_drewN ?_ _ | refine blk_drew ?_ | refine blk_alloc ?_ _)); exact BK411.out) Try.underlying40 rfl (by kernel_rfl)) rfl ?_
    exact ⟨zz8, zz60 GE409 GE410 GE411⟩
   ·replace c21 := Bool.eq_false_iff.mpr c21
    subst c21
    have H1 : ((bits_LeadingZeros32.f ((Go.bits .xor .i64 a0_0 a1_0) % 4294967296)).bind fun t414 => ((impl_around.f a0_0 (mn (mn t414 a0_1) a1_1)).bind fun bt415 => (some (bt415.1, bt415.2)))) = some (r1, r2) := by rw [if_neg (show ¬ (false = true) by decide)] at H; exact H
    clear H
    have H := H1
    clear H1
    replace H := bd H
    obtain ⟨t414, A25, H⟩ := H
    replace H : ((impl_around.f a0_0 (mn (mn t414 a0_1) a1_1)).bind fun bt415 => (some (bt415.1, bt415.2))) = some (r1, r2) := H
    obtain ⟨ji26, hji26⟩ : ∃ j_ : Int, (mn t414 a0_1) = j_ := ⟨_, rfl⟩
    replace H : ((impl_around.f a0_0 (mn (ji26) a1_1)).bind fun bt415 => (some (bt415.1, bt415.2))) = some (r1, r2) := by first | (rw [hji26] at H; exact H) | (simp only [hji26] at H ⊢; exact H)
    (try rw [hji26] at A25)
    have hji26_ : (if a0_1 < t414 then a0_1 else t414) = ji26 := hji26
    obtain ⟨ji27, hji27⟩ : ∃ j_ : Int, (mn (ji26) a1_1) = j_ := ⟨_, rfl⟩
    replace H : ((impl_around.f a0_0 (ji27)).bind fun bt415 => (some (bt415.1, bt415.2))) = some (r1, r2) := by first | (rw [hji27] at H; exact H) | (simp only [hji27] at H ⊢; exact H)
    (try rw [hji27] at A25)
    have hji27_ : (if a1_1 < (ji26) then a1_1 else (ji26)) = ji27 := hji27
    replace H := bd H
    obtain ⟨⟨t415, t416⟩, A28, H⟩ := H
    replace H : (some (t415, t416)) = some (r1, r2) := H
    simp only [Option.some.injEq, Prod.mk.injEq] at H
    obtain ⟨rfl, rfl⟩ := H
    have hnb29 := NB409_410.out
    have hnc29 := NB410_409.out
    have hnb30 := NB409_411.out
    have hnc30 := NB411_409.out
    have hcz31_0 : wc.cell? ⟨gb409, 0, none⟩ = some (.int .i64 a0_0) := (blk_cell BK409.out 0).trans rfl
    have hcz31_1 : wc.cell? ⟨gb409, 1, none⟩ = some (.int .i64 a0_1) := (blk_cell BK409.out 1).trans rfl
    have hfz31_0 := blk_frozen BK409.out 0
    have hfz31_1 := blk_frozen BK409.out 1
    have hnb32 := NB410_411.out
    have hnc32 := NB411_410.out
    have hcz33_0 : wc.cell? ⟨gb410, 0, none⟩ = some (.int .i64 a1_0) := (blk_cell BK410.out 0).trans rfl
    have hcz33_1 : wc.cell? ⟨gb410, 1, none⟩ = some (.int .i64 a1_1) := (blk_cell BK410.out 1).trans rfl
    have hfz33_0 := blk_frozen BK410.out 0
    have hfz33_1 := blk_frozen BK410.out 1
    go_wp2_with (first | (refine gc (some 21) Try.func69 #[.int .u32 ((Go.bits .xor .i64 a0_0 a1_0) % 4294967296)] ?_; (with_reducible refine (bits_LeadingZeros32.calls ((Go.bits .xor .i64 a0_0 a1_0) % 4294967296) t414 _ A25.out).mono ?_); rintro e w' ⟨rfl, ⟨nd, rfl⟩⟩; refine ⟨_, rfl, ?_⟩; (try (rw [drewN_self wc]; generalize hq_ : World.drewN wc _ = wc; have n0_ : Aside0 (wc.heap[gb409]? = some (.cells #[.int .i64 a0_0, .int .i64 a0_1] 40 (0, 0))) := ⟨zz41 BK409⟩; have n1_ : Aside0 (wc.heap[gb410]? = some (.cells #[.int .i64 a1_0, .int .i64 a1_1] 40 (0, 0))) := ⟨zz41 BK410⟩; have n2_ : Aside0 (wc.heap[gb411]? = some (.cells #[.int .i64 0, .int .i64 0] 40 (0, 0))) := ⟨zz41 BK411⟩; have n3_ : Aside0 (Below w.heap.size w wc) := ⟨by rw [← hq_]; exact (zz60 GE409 GE410 GE411)⟩; clear BK409 BK410 BK411 HB hq_; have BK409 := n0_; have BK410 := n1_; have BK411 := n2_; have HB := n3_; clear n0_ n1_ n2_ n3_; have hcy409_0 : wc.cell? ⟨gb409, 0, none⟩ = some (.int .i64 a0_0) := (blk_cell BK409.out 0).trans rfl; have hcy409_1 : wc.cell? ⟨gb409, 1, none⟩ = some (.int .i64 a0_1) := (blk_cell BK409.out 1).trans rfl; have hcy410_0 : wc.cell? ⟨gb410, 0, none⟩ = some (.int .i64 a1_0) := (blk_cell BK410.out 0).trans rfl; have hcy410_1 : wc.cell? ⟨gb410, 1, none⟩ = some (.int .i64 a1_1) := (blk_cell BK410.out 1).trans rfl; have hcy411_0 : wc.cell? ⟨gb411, 0, none⟩ = some (.int .i64 0) := (blk_cell BK411.out 0).trans rfl; have hcy411_1 : wc.cell? ⟨gb411, 1, none⟩ = some (.int .i64 0) := (blk_cell BK411.out 1).trans rfl))) | ((with_reducible refine gate_callee (f := 70) rfl ?_); refine goesL_ (some 30) rfl rfl Try.func70 (by kernel_rfl) rfl #[.int .i64 a0_0, .int .i64 ji27] rfl (by (try simp only [List.map_toArray, List.map_cons, List.map_nil]); first | done | (simp only [hji27]; rfl) | rfl | (simp only [List.length_drop, List.length_take]; rfl)) ?_; (with_reducible refine (impl_around.calls a0_0 ji27 t415 t416 _ A28.out).mono ?_); rintro e w34 ⟨rfl, hb⟩; refine ⟨_, rfl, ?_⟩; replace BK409 := Aside0.mk (blk_below (g := gb409) (o := .cells #[.int .i64 a0_0, .int .i64 a0_1] 40 (0, 0)) (zz7 BK409) hb); replace BK410 := Aside0.mk (blk_below (g := gb410) (o := .cells #[.int .i64 a1_0, .int .i64 a1_1] 40 (0, 0)) (zz7 BK410) hb); replace BK411 := Aside0.mk (blk_below (g := gb411) (o := .cells #[.int .i64 0, .int .i64 0] 40 (0, 0)) (zz7 BK411) hb); replace HB := Aside0.mk (below_step (zz60 GE409 GE410 GE411) hb); clear hb; have hcz35_0 : w34.cell? ⟨gb411, 0, none⟩ = some (.int .i64 0) := (blk_cell BK411.out 0).trans rfl; have hcz35_1 : w34.cell? ⟨gb411, 1, none⟩ = some (.int .i64 0) := (blk_cell BK411.out 1).trans rfl; have hfz35_0 := blk_frozen BK411.out 0; have hfz35_1 := blk_frozen BK411.out 1))
    refine bodyPost_ret (results_cell_row rfl _ _ gb411 40 #[.int .i64 t415, .int .i64 t416] (0, 0) _ rfl (by (with_reducible repeat (first | refine blk_drewN ?_ _ | refine blk_drew ?_ | refine blk_alloc ?_ _)); refine blk_put (cs := #[.int .i64 t415, .int .i64 0]) ?_ 1 _ rfl; (with_reducible repeat (first | refine blk_drewN ?_ _ | refine blk_drew ?_ | refine blk_alloc ?_ _)); refine blk_put (cs := #[.int .i64 0, .int .i64 0]) ?_ 0 _ rfl; (with_reducible repeat (first | refine blk_drewN ?_ _ | refine blk_drew ?_ | refine blk_alloc ?_ _)); exact BK411.out) Try.underlying40 rfl (by kernel_rfl)) rfl ?_
    exact ⟨by first | rfl | (simp [errW_none, errW_some] <;> rfl) | (simp only [← hji26, ← hji27]; first | rfl | (simp [errW_none, errW_some] <;> rfl)) | (simp [*, errW_none, errW_some] <;> rfl), zz60 GE409 GE410 GE411⟩

/-! ### impl_BlockIn: function 71 -/
def impl_BlockIn.f (a0_0 : Int) (a0_1 : Int) (a1_0 : Int) (a1_1 : Int) : Option (Bool) := (impl_BlockOk.f a0_0 a0_1).bind fun t419 => (if t419 = true then ((impl_BlockOk.f a1_0 a1_1).bind fun t420 => (if t420 = true then (if a1_1 ≥ a0_1 then ((impl_Block_has.f a0_0 a0_1 a1_0).bind fun t421 => (some t421)) else (some false)) else (some false))) else (some false))
set_option maxHeartbeats 8000000 in
set_option maxRecDepth 100000 in
theorem impl_BlockIn.calls (a0_0 : Int) (a0_1 : Int) (a1_0 : Int) (a1_1 : Int) (r : Bool) (w : World) (h : impl_BlockIn.f a0_0 a0_1 a1_0 a1_1 = some r) :
  Calls Try.prog 71 #[.agg #[.int .i64 a0_0, .int .i64 a0_1], .agg #[.int .i64 a1_0, .int .i64 a1_1]] w fun e w' => e = .returned (.bool r) ∧ Below w.heap.size w w' := by
 have hu40 := Try.underlying40
 have HB := Aside0.mk (Below.refl w.heap.size w)
 have H : ((impl_BlockOk.f a0_0 a0_1).bind fun t419 => (if t419 = true then ((impl_BlockOk.f a1_0 a1_1).bind fun t420 => (if t420 = true then (if a1_1 ≥ a0_1 then ((impl_Block_has.f a0_0 a0_1 a1_0).bind fun t421 => (some t421)) else (some false)) else (some false))) else (some false))) = some r := h
 clear h
 replace H := bd H
 obtain ⟨t419, A3, H⟩ := H
 replace H : (if t419 = true then ((impl_BlockOk.f a1_0 a1_1).bind fun t420 => (if t420 = true then (if a1_1 ≥ a0_1 then ((impl_Block_has.f a0_0 a0_1 a1_0).bind fun t421 => (some t421)) else (some false)) else (some false))) else (some false)) = some r := H
 by_cases c4 : t419 = true
 ·subst c4
  have H1 : ((impl_BlockOk.f a1_0 a1_1).bind fun t420 => (if t420 = true then (if a1_1 ≥ a0_1 then ((impl_Block_has.f a0_0 a0_1 a1_0).bind fun t421 => (some t421)) else (some false)) else (some false))) = some r := by rw [if_pos rfl] at H; exact H
  clear H
  have H := H1
  clear H1
  replace H := bd H
  obtain ⟨t420, A5, H⟩ := H
  replace H : (if t420 = true then (if a1_1 ≥ a0_1 then ((impl_Block_has.f a0_0 a0_1 a1_0).bind fun t421 => (some t421)) else (some false)) else (some false)) = some r := H
  by_cases c6 : t420 = true
  ·subst c6
   have H1 : (if a1_1 ≥ a0_1 then ((impl_Block_has.f a0_0 a0_1 a1_0).bind fun t421 => (some t421)) else (some false)) = some r := by rw [if_pos rfl] at H; exact H
   clear H
   have H := H1
   clear H1
   replace H := ic H
   rcases H with ⟨c7b0, H⟩ | ⟨c7b0, H⟩
   ·replace H := Option.bind_eq_some_iff.mp H
    obtain ⟨t421, A80, H⟩ := H
    replace H : (some t421) = some r := H
    have A8 := Aside0.mk A80
    clear A80
    obtain rfl := Option.some.inj H
    go_enter Try.func71, Try.ntmps71
    go_wp2_with (first | (refine be 2 #[.int .i64 a0_0, .int .i64 a0_1] 40 ?_; intro gb417 hg w9 hbox hb; have BK417 := Aside0.mk hbox; have GW417 := Aside0.mk (zz4 : w.heap.size ≤ gb417); have GE417 := Aside0.mk (zz4 : w.heap.size ≤ gb417); replace HB := Aside0.mk (below_step zz5 hb); clear hb hbox hg) | (refine be 3 #[.int .i64 a1_0, .int .i64 a1_1] 40 ?_; intro gb418 hg w10 hbox hb; have BK418 := Aside0.mk hbox; have GW418 := Aside0.mk (zz15 GE417 : w.heap.size ≤ gb418); have GE418 := Aside0.mk (zz15 GE417 : w.heap.size ≤ gb418); replace HB := Aside0.mk (below_step (zz6 GE417) hb); have NB417_418 := Aside0.mk (by rw [hg]; exact Nat.ne_of_lt (blk_lt (g := gb417) (o := .cells #[.int .i64 a0_0, .int .i64 a0_1] 40 (0, 0)) (zz7 BK417)) : gb417 ≠ gb418); have NB418_417 := Aside0.mk (by rw [hg]; exact Nat.ne_of_gt (blk_lt (g := gb417) (o := .cells #[.int .i64 a0_0, .int .i64 a0_1] 40 (0, 0)) (zz7 BK417)) : gb418 ≠ gb417); replace BK417 := Aside0.mk (blk_below (g := gb417) (o := .cells #[.int .i64 a0_0, .int .i64 a0_1] 40 (0, 0)) (zz7 BK417) hb); clear hb hbox hg; have hnb11 := NB417_418.out; have hnc11 := NB418_417.out; have hcz12_0 : w10.cell? ⟨gb417, 0, none⟩ = some (.int .i64 a0_0) := (blk_cell BK417.out 0).trans rfl; have hcz12_1 : w10.cell? ⟨gb417, 1, none⟩ = some (.int .i64 a0_1) := (blk_cell BK417.out 1).trans rfl; have hfz12_0 := blk_frozen BK417.out 0; have hfz12_1 := blk_frozen BK417.out 1) | (refine gc (some 6) Try.func68 #[.agg #[.int .i64 a0_0, .int .i64 a0_1]] ?_; (with_reducible refine (impl_BlockOk.calls a0_0 a0_1 true _ A3.out).mono ?_); rintro e w13 ⟨rfl, hb⟩; refine ⟨_, rfl, ?_⟩; replace BK417 := Aside0.mk (blk_below (g := gb417) (o := .cells #[.int .i64 a0_0, .int .i64 a0_1] 40 (0, 0)) (zz7 BK417) hb); replace BK418 := Aside0.mk (blk_below (g := gb418) (o := .cells #[.int .i64 a1_0, .int .i64 a1_1] 40 (0, 0)) (zz7 BK418) hb); replace HB := Aside0.mk (below_step (zz16 GE417 GE418) hb); clear hb; have hcz14_0 : w13.cell? ⟨gb418, 0, none⟩ = some (.int .i64 a1_0) := (blk_cell BK418.out 0).trans rfl; have hcz14_1 : w13.cell? ⟨gb418, 1, none⟩ = some (.int .i64 a1_1) := (blk_cell BK418.out 1).trans rfl; have hfz14_0 := blk_frozen BK418.out 0; have hfz14_1 := blk_frozen BK418.out 1) | (go_at_call 68; (with_reducible refine (impl_BlockOk.calls a1_0 a1_1 true _ A5.out).mono ?_); rintro e w15 ⟨rfl, hb⟩; replace BK417 := Aside0.mk (blk_below (g := gb417) (o := .cells #[.int .i64 a0_0, .int .i64 a0_1] 40 (0, 0)) (zz7 BK417) hb); replace BK418 := Aside0.mk (blk_below (g := gb418) (o := .cells #[.int .i64 a1_0, .int .i64 a1_1] 40 (0, 0)) (zz7 BK418) hb); replace HB := Aside0.mk (below_step (zz16 GE417 GE418) hb); clear hb; have hcz16_0 : w15.cell? ⟨gb418, 0, none⟩ = some (.int .i64 a1_0) := (blk_cell BK418.out 0).trans rfl; have hcz16_1 : w15.cell? ⟨gb418, 1, none⟩ = some (.int .i64 a1_1) := (blk_cell BK418.out 1).trans rfl; have hfz16_0 := blk_frozen BK418.out 0; have hfz16_1 := blk_frozen BK418.out 1; have hcz17_0 : w15.cell? ⟨gb417, 0, none⟩ = some (.int .i64 a0_0) := (blk_cell BK417.out 0).trans rfl; have hcz17_1 : w15.cell? ⟨gb417, 1, none⟩ = some (.int .i64 a0_1) := (blk_cell BK417.out 1).trans rfl; have hfz17_0 := blk_frozen BK417.out 0; have hfz17_1 := blk_frozen BK417.out 1) | (go_at_call 57; (with_reducible refine (impl_Block_has.calls a0_0 a0_1 a1_0 t421 _ A8.out).mono ?_); rintro e w18 ⟨rfl, hb⟩; replace BK417 := Aside0.mk (blk_below (g := gb417) (o := .cells #[.int .i64 a0_0, .int .i64 a0_1] 40 (0, 0)) (zz7 BK417) hb); replace BK418 := Aside0.mk (blk_below (g := gb418) (o := .cells #[.int .i64 a1_0, .int .i64 a1_1] 40 (0, 0)) (zz7 BK418) hb); replace HB := Aside0.mk (below_step (zz16 GE417 GE418) hb); clear hb))
    go_ret
    exact ⟨zz8, zz16 GE417 GE418⟩
   ·obtain rfl := Option.some.inj H
    go_enter Try.func71, Try.ntmps71
    go_wp2_with (first | (refine be 2 #[.int .i64 a0_0, .int .i64 a0_1] 40 ?_; intro gb417 hg w19 hbox hb; have BK417 := Aside0.mk hbox; have GW417 := Aside0.mk (zz4 : w.heap.size ≤ gb417); have GE417 := Aside0.mk (zz4 : w.heap.size ≤ gb417); replace HB := Aside0.mk (below_step zz5 hb); clear hb hbox hg) | (refine be 3 #[.int .i64 a1_0, .int .i64 a1_1] 40 ?_; intro gb418 hg w20 hbox hb; have BK418 := Aside0.mk hbox; have GW418 := Aside0.mk (zz15 GE417 : w.heap.size ≤ gb418); have GE418 := Aside0.mk (zz15 GE417 : w.heap.size ≤ gb418); replace HB := Aside0.mk (below_step (zz6 GE417) hb); have NB417_418 := Aside0.mk (by rw [hg]; exact Nat.ne_of_lt (blk_lt (g := gb417) (o := .cells #[.int .i64 a0_0, .int .i64 a0_1] 40 (0, 0)) (zz7 BK417)) : gb417 ≠ gb418); have NB418_417 := Aside0.mk (by rw [hg]; exact Nat.ne_of_gt (blk_lt (g := gb417) (o := .cells #[.int .i64 a0_0, .int .i64 a0_1] 40 (0, 0)) (zz7 BK417)) : gb418 ≠ gb417); replace BK417 := Aside0.mk (blk_below (g := gb417) (o := .cells #[.int .i64 a0_0, .int .i64 a0_1] 40 (0, 0)) (zz7 BK417) hb); clear hb hbox hg; have hnb21 := NB417_418.out; have hnc21 := NB418_417.out; have hcz22_0 : w20.cell? ⟨gb417, 0, none⟩ = some (.int .i64 a0_0) := (blk_cell BK417.out 0).trans rfl; have hcz22_1 : w20.cell? ⟨gb417, 1, none⟩ = some (.int .i64 a0_1) := (blk_cell BK417.out 1).trans rfl; have hfz22_0 := blk_frozen BK417.out 0; have hfz22_1 := blk_frozen BK417.out 1) | (refine gc (some 6) Try.func68 #[.agg #[.int .i64 a0_0, .int .i64 a0_1]] ?_; (with_reducible refine (impl_BlockOk.calls a0_0 a0_1 true _ A3.out).mono ?_); rintro e w23 ⟨rfl, hb⟩; refine ⟨_, rfl, ?_⟩; replace BK417 := Aside0.mk (blk_below (g := gb417) (o := .cells #[.int .i64 a0_0, .int .i64 a0_1] 40 (0, 0)) (zz7 BK417) hb); replace BK418 := Aside0.mk (blk_below (g := gb418) (o := .cells #[.int .i64 a1_0, .int .i64 a1_1] 40 (0, 0)) (zz7 BK418) hb); replace HB := Aside0.mk (below_step (zz16 GE417 GE418) hb); clear hb; have hcz24_0 : w23.cell? ⟨gb418, 0, none⟩ = some (.int .i64 a1_0) := (blk_cell BK418.out 0).trans rfl; have hcz24_1 : w23.cell? ⟨gb418, 1, none⟩ = some (.int .i64 a1_1) := (blk_cell BK418.out 1).trans rfl; have hfz24_0 := blk_frozen BK418.out 0; have hfz24_1 := blk_frozen BK418.out 1) | (go_at_call 68; (with_reducible refine (impl_BlockOk.calls a1_0 a1_1 true _ A5.out).mono ?_); rintro e w25 ⟨rfl, hb⟩; replace BK417 := Aside0.mk (blk_below (g := gb417) (o := .cells #[.int .i64 a0_0, .int .i64 a0_1] 40 (0, 0)) (zz7 BK417) hb); replace BK418 := Aside0.mk (blk_below (g := gb418) (o := .cells #[.int .i64 a1_0, .int .i64 a1_1] 40 (0, 0)) (zz7 BK418) hb); replace HB := Aside0.mk (below_step (zz16 GE417 GE418) hb); clear hb; have hcz26_0 : w25.cell? ⟨gb418, 0, none⟩ = some (.int .i64 a1_0) := (blk_cell BK418.out 0).trans rfl; have hcz26_1 : w25.cell? ⟨gb418, 1, none⟩ = some (.int .i64 a1_1) := (blk_cell BK418.out 1).trans rfl; have hfz26_0 := blk_frozen BK418.out 0; have hfz26_1 := blk_frozen BK418.out 1; have hcz27_0 : w25.cell? ⟨gb417, 0, none⟩ = some (.int .i64 a0_0) := (blk_cell BK417.out 0).trans rfl; have hcz27_1 : w25.cell? ⟨gb417, 1, none⟩ = some (.int .i64 a0_1) := (blk_cell BK417.out 1).trans rfl; have hfz27_0 := blk_frozen BK417.out 0; have hfz27_1 := blk_frozen BK417.out 1))
    go_ret
    exact ⟨zz8, zz16 GE417 GE418⟩
  ·replace c6 := Bool.eq_false_iff.mpr c6
   subst c6
   have H1 : (some false) = some r := by rw [if_neg (show ¬ (false = true) by decide)] at H; exact H
   clear H
   have H := H1
   clear H1
   obtain rfl := Option.some.inj H
   go_enter Try.func71, Try.ntmps71
   go_wp2_with (first | (refine be 2 #[.int .i64 a0_0, .int .i64 a0_1] 40 ?_; intro gb417 hg w28 hbox hb; have BK417 := Aside0.mk hbox; have GW417 := Aside0.mk (zz4 : w.heap.size ≤ gb417); have GE417 := Aside0.mk (zz4 : w.heap.size ≤ gb417); replace HB := Aside0.mk (below_step zz5 hb); clear hb hbox hg) | (refine be 3 #[.int .i64 a1_0, .int .i64 a1_1] 40 ?_; intro gb418 hg w29 hbox hb; have BK418 := Aside0.mk hbox; have GW418 := Aside0.mk (zz15 GE417 : w.heap.size ≤ gb418); have GE418 := Aside0.mk (zz15 GE417 : w.heap.size ≤ gb418); replace HB := Aside0.mk (below_step (zz6 GE417) hb); have NB417_418 := Aside0.mk (by rw [hg]; exact Nat.ne_of_lt (blk_lt (g := gb417) (o := .cells #[.int .i64 a0_0, .int .i64 a0_1] 40 (0, 0)) (zz7 BK417)) : gb417 ≠ gb418); have NB418_417 := Aside0.mk (by rw [hg]; exact Nat.ne_of_gt (blk_lt (g := gb417) (o := .cells #[.int .i64 a0_0, .int .i64 a0_1] 40 (0, 0)) (zz7 BK417)) : gb418 ≠ gb417); replace BK417 := Aside0.mk (blk_below (g := gb417) (o := .cells #[.int .i64 a0_0, .int .i64 a0_1] 40 (0, 0)) (zz7 BK417) hb); clear hb hbox hg; have hnb30 := NB417_418.out; have hnc30 := NB418_417.out; have hcz31_0 : w29.cell? ⟨gb417, 0, none⟩ = some (.int .i64 a0_0) := (blk_cell BK417.out 0).trans rfl; have hcz31_1 : w29.cell? ⟨gb417, 1, none⟩ = some (.int .i64 a0_1) := (blk_cell BK417.out 1).trans rfl; have hfz31_0 := blk_frozen BK417.out 0; have hfz31_1 := blk_frozen BK417.out 1) | (refine gc (some 6) Try.func68 #[.agg #[.int .i64 a0_0, .int .i64 a0_1]] ?_; (with_reducible refine (impl_BlockOk.calls a0_0 a0_1 true _ A3.out).mono ?_); rintro e w32 ⟨rfl, hb⟩; refine ⟨_, rfl, ?_⟩; replace BK417 := Aside0.mk (blk_below (g := gb417) (o := .cells #[.int .i64 a0_0, .int .i64 a0_1] 40 (0, 0)) (zz7 BK417) hb); replace BK418 := Aside0.mk (blk_below (g := gb418) (o := .cells #[.int .i64 a1_0, .int .i64 a1_1] 40 (0, 0)) (zz7 BK418) hb); replace HB := Aside0.mk (below_step (zz16 GE417 GE418) hb); clear hb; have hcz33_0 : w32.cell? ⟨gb418, 0, none⟩ = some (.int .i64 a1_0) := (blk_cell BK418.out 0).trans rfl; have hcz33_1 : w32.cell? ⟨gb418, 1, none⟩ = some (.int .i64 a1_1) := (blk_cell BK418.out 1).trans rfl; have hfz33_0 := blk_frozen BK418.out 0; have hfz33_1 := blk_frozen BK418.out 1) | (go_at_call 68; (with_reducible refine (impl_BlockOk.calls a1_0 a1_1 false _ A5.out).mono ?_); rintro e w34 ⟨rfl, hb⟩; replace BK417 := Aside0.mk (blk_below (g := gb417) (o := .cells #[.int .i64 a0_0, .int .i64 a0_1] 40 (0, 0)) (zz7 BK417) hb); replace BK418 := Aside0.mk (blk_below (g := gb418) (o := .cells #[.int .i64 a1_0, .int .i64 a1_1] 40 (0, 0)) (zz7 BK418) hb); replace HB := Aside0.mk (below_step (zz16 GE417 GE418) hb); clear hb))
   go_ret
   exact ⟨zz8, zz16 GE417 GE418⟩
 ·replace c4 := Bool.eq_false_iff.mpr c4
  subst c4
  have H1 : (some false) = some r := by rw [if_neg (show ¬ (false = true) by decide)] at H; exact H
  clear H
  have H := H1
  clear H1
  obtain rfl := Option.some.inj H
  go_enter Try.func71, Try.ntmps71
  go_wp2_with (first | (refine be 2 #[.int .i64 a0_0, .int .i64 a0_1] 40 ?_; intro gb417 hg w35 hbox hb; have BK417 := Aside0.mk hbox; have GW417 := Aside0.mk (zz4 : w.heap.size ≤ gb417); have GE417 := Aside0.mk (zz4 : w.heap.size ≤ gb417); replace HB := Aside0.mk (below_step zz5 hb); clear hb hbox hg) | (refine be 3 #[.int .i64 a1_0, .int .i64 a1_1] 40 ?_; intro gb418 hg w36 hbox hb; have BK418 := Aside0.mk hbox; have GW418 := Aside0.mk (zz15 GE417 : w.heap.size ≤ gb418); have GE418 := Aside0.mk (zz15 GE417 : w.heap.size ≤ gb418); replace HB := Aside0.mk (below_step (zz6 GE417) hb); have NB417_418 := Aside0.mk (by rw [hg]; exact Nat.ne_of_lt (blk_lt (g := gb417) (o := .cells #[.int .i64 a0_0, .int .i64 a0_1] 40 (0, 0)) (zz7 BK417)) : gb417 ≠ gb418); have NB418_417 := Aside0.mk (by rw [hg]; exact Nat.ne_of_gt (blk_lt (g := gb417) (o := .cells #[.int .i64 a0_0, .int .i64 a0_1] 40 (0, 0)) (zz7 BK417)) : gb418 ≠ gb417); replace BK417 := Aside0.mk (blk_below (g := gb417) (o := .cells #[.int .i64 a0_0, .int .i64 a0_1] 40 (0, 0)) (zz7 BK417) hb); clear hb hbox hg; have hnb37 := NB417_418.out; have hnc37 := NB418_417.out; have hcz38_0 : w36.cell? ⟨gb417, 0, none⟩ = some (.int .i64 a0_0) := (blk_cell BK417.out 0).trans rfl; have hcz38_1 : w36.cell? ⟨gb417, 1, none⟩ = some (.int .i64 a0_1) := (blk_cell BK417.out 1).trans rfl; have hfz38_0 := blk_frozen BK417.out 0; have hfz38_1 := blk_frozen BK417.out 1) | (refine gc (some 6) Try.func68 #[.agg #[.int .i64 a0_0, .int .i64 a0_1]] ?_; (with_reducible refine (impl_BlockOk.calls a0_0 a0_1 false _ A3.out).mono ?_); rintro e w39 ⟨rfl, hb⟩; refine ⟨_, rfl, ?_⟩; replace BK417 := Aside0.mk (blk_below (g := gb417) (o := .cells #[.int .i64 a0_0, .int .i64 a0_1] 40 (0, 0)) (zz7 BK417) hb); replace BK418 := Aside0.mk (blk_below (g := gb418) (o := .cells #[.int .i64 a1_0, .int .i64 a1_1] 40 (0, 0)) (zz7 BK418) hb); replace HB := Aside0.mk (below_step (zz16 GE417 GE418) hb); clear hb))
  go_ret
  exact ⟨zz8, zz16 GE417 GE418⟩

/-! ### impl_BlockMeets: function 25 -/
def impl_BlockMeets.f (a0_0 : Int) (a0_1 : Int) (a1_0 : Int) (a1_1 : Int) : Option (Bool) := (impl_BlockIn.f a0_0 a0_1 a1_0 a1_1).bind fun t424 => (if t424 = true then (some true) else ((impl_BlockIn.f a1_0 a1_1 a0_0 a0_1).bind fun t425 => (some t425)))
set_option maxHeartbeats 8000000 in
set_option maxRecDepth 100000 in
theorem impl_BlockMeets.calls (a0_0 : Int) (a0_1 : Int) (a1_0 : Int) (a1_1 : Int) (r : Bool) (w : World) (h : impl_BlockMeets.f a0_0 a0_1 a1_0 a1_1 = some r) :
  Calls Try.prog 25 #[.agg #[.int .i64 a0_0, .int .i64 a0_1], .agg #[.int .i64 a1_0, .int .i64 a1_1]] w fun e w' => e = .returned (.bool r) ∧ Below w.heap.size w w' := by
 have hu40 := Try.underlying40
 have HB := Aside0.mk (Below.refl w.heap.size w)
 have H : ((impl_BlockIn.f a0_0 a0_1 a1_0 a1_1).bind fun t424 => (if t424 = true then (some true) else ((impl_BlockIn.f a1_0 a1_1 a0_0 a0_1).bind fun t425 => (some t425)))) = some r := h
 clear h
 replace H := bd H
 obtain ⟨t424, A3, H⟩ := H
 replace H : (if t424 = true then (some true) else ((impl_BlockIn.f a1_0 a1_1 a0_0 a0_1).bind fun t425 => (some t425))) = some r := H
 by_cases c4 : t424 = true
 ·subst c4
  have H1 : (some true) = some r := by rw [if_pos rfl] at H; exact H
  clear H
  have H := H1
  clear H1
  obtain rfl := Option.some.inj H
  go_enter Try.func25, Try.ntmps25
  go_wp2_with (first | (refine be 2 #[.int .i64 a0_0, .int .i64 a0_1] 40 ?_; intro gb422 hg w5 hbox hb; have BK422 := Aside0.mk hbox; have GW422 := Aside0.mk (zz4 : w.heap.size ≤ gb422); have GE422 := Aside0.mk (zz4 : w.heap.size ≤ gb422); replace HB := Aside0.mk (below_step zz5 hb); clear hb hbox hg) | (refine be 3 #[.int .i64 a1_0, .int .i64 a1_1] 40 ?_; intro gb423 hg w6 hbox hb; have BK423 := Aside0.mk hbox; have GW423 := Aside0.mk (zz15 GE422 : w.heap.size ≤ gb423); have GE423 := Aside0.mk (zz15 GE422 : w.heap.size ≤ gb423); replace HB := Aside0.mk (below_step (zz6 GE422) hb); have NB422_423 := Aside0.mk (by rw [hg]; exact Nat.ne_of_lt (blk_lt (g := gb422) (o := .cells #[.int .i64 a0_0, .int .i64 a0_1] 40 (0, 0)) (zz7 BK422)) : gb422 ≠ gb423); have NB423_422 := Aside0.mk (by rw [hg]; exact Nat.ne_of_gt (blk_lt (g := gb422) (o := .cells #[.int .i64 a0_0, .int .i64 a0_1] 40 (0, 0)) (zz7 BK422)) : gb423 ≠ gb422); replace BK422 := Aside0.mk (blk_below (g := gb422) (o := .cells #[.int .i64 a0_0, .int .i64 a0_1] 40 (0, 0)) (zz7 BK422) hb); clear hb hbox hg; have hnb7 := NB422_423.out; have hnc7 := NB423_422.out; have hcz8_0 : w6.cell? ⟨gb422, 0, none⟩ = some (.int .i64 a0_0) := (blk_cell BK422.out 0).trans rfl; have hcz8_1 : w6.cell? ⟨gb422, 1, none⟩ = some (.int .i64 a0_1) := (blk_cell BK422.out 1).trans rfl; have hfz8_0 := blk_frozen BK422.out 0; have hfz8_1 := blk_frozen BK422.out 1; have hcz9_0 : w6.cell? ⟨gb423, 0, none⟩ = some (.int .i64 a1_0) := (blk_cell BK423.out 0).trans rfl; have hcz9_1 : w6.cell? ⟨gb423, 1, none⟩ = some (.int .i64 a1_1) := (blk_cell BK423.out 1).trans rfl; have hfz9_0 := blk_frozen BK423.out 0; have hfz9_1 := blk_frozen BK423.out 1) | (refine gc (some 7) Try.func71 #[.agg #[.int .i64 a0_0, .int .i64 a0_1], .agg #[.int .i64 a1_0, .int .i64 a1_1]] ?_; (with_reducible refine (impl_BlockIn.calls a0_0 a0_1 a1_0 a1_1 true _ A3.out).mono ?_); rintro e w10 ⟨rfl, hb⟩; refine ⟨_, rfl, ?_⟩; replace BK422 := Aside0.mk (blk_below (g := gb422) (o := .cells #[.int .i64 a0_0, .int .i64 a0_1] 40 (0, 0)) (zz7 BK422) hb); replace BK423 := Aside0.mk (blk_below (g := gb423) (o := .cells #[.int .i64 a1_0, .int .i64 a1_1] 40 (0, 0)) (zz7 BK423) hb); replace HB := Aside0.mk (below_step (zz16 GE422 GE423) hb); clear hb))
  go_ret
  exact ⟨zz8, zz16 GE422 GE423⟩
 ·replace c4 := Bool.eq_false_iff.mpr c4
  subst c4
  have H1 : ((impl_BlockIn.f a1_0 a1_1 a0_0 a0_1).bind fun t425 => (some t425)) = some r := by rw [if_neg (show ¬ (false = true) by decide)] at H; exact H
  clear H
  have H := H1
  clear H1
  replace H := bd H
  obtain ⟨t425, A11, H⟩ := H
  replace H : (some t425) = some r := H
  obtain rfl := Option.some.inj H
  go_enter Try.func25, Try.ntmps25
  go_wp2_with (first | (refine be 2 #[.int .i64 a0_0, .int .i64 a0_1] 40 ?_; intro gb422 hg w12 hbox hb; have BK422 := Aside0.mk hbox; have GW422 := Aside0.mk (zz4 : w.heap.size ≤ gb422); have GE422 := Aside0.mk (zz4 : w.heap.size ≤ gb422); replace HB := Aside0.mk (below_step zz5 hb); clear hb hbox hg) | (refine be 3 #[.int .i64 a1_0, .int .i64 a1_1] 40 ?_; intro gb423 hg w13 hbox hb; have BK423 := Aside0.mk hbox; have GW423 := Aside0.mk (zz15 GE422 : w.heap.size ≤ gb423); have GE423 := Aside0.mk (zz15 GE422 : w.heap.size ≤ gb423); replace HB := Aside0.mk (below_step (zz6 GE422) hb); have NB422_423 := Aside0.mk (by rw [hg]; exact Nat.ne_of_lt (blk_lt (g := gb422) (o := .cells #[.int .i64 a0_0, .int .i64 a0_1] 40 (0, 0)) (zz7 BK422)) : gb422 ≠ gb423); have NB423_422 := Aside0.mk (by rw [hg]; exact Nat.ne_of_gt (blk_lt (g := gb422) (o := .cells #[.int .i64 a0_0, .int .i64 a0_1] 40 (0, 0)) (zz7 BK422)) : gb423 ≠ gb422); replace BK422 := Aside0.mk (blk_below (g := gb422) (o := .cells #[.int .i64 a0_0, .int .i64 a0_1] 40 (0, 0)) (zz7 BK422) hb); clear hb hbox hg; have hnb14 := NB422_423.out; have hnc14 := NB423_422.out; have hcz15_0 : w13.cell? ⟨gb422, 0, none⟩ = some (.int .i64 a0_0) := (blk_cell BK422.out 0).trans rfl; have hcz15_1 : w13.cell? ⟨gb422, 1, none⟩ = some (.int .i64 a0_1) := (blk_cell BK422.out 1).trans rfl; have hfz15_0 := blk_frozen BK422.out 0; have hfz15_1 := blk_frozen BK422.out 1; have hcz16_0 : w13.cell? ⟨gb423, 0, none⟩ = some (.int .i64 a1_0) := (blk_cell BK423.out 0).trans rfl; have hcz16_1 : w13.cell? ⟨gb423, 1, none⟩ = some (.int .i64 a1_1) := (blk_cell BK423.out 1).trans rfl; have hfz16_0 := blk_frozen BK423.out 0; have hfz16_1 := blk_frozen BK423.out 1) | (refine gc (some 7) Try.func71 #[.agg #[.int .i64 a0_0, .int .i64 a0_1], .agg #[.int .i64 a1_0, .int .i64 a1_1]] ?_; (with_reducible refine (impl_BlockIn.calls a0_0 a0_1 a1_0 a1_1 false _ A3.out).mono ?_); rintro e w17 ⟨rfl, hb⟩; refine ⟨_, rfl, ?_⟩; replace BK422 := Aside0.mk (blk_below (g := gb422) (o := .cells #[.int .i64 a0_0, .int .i64 a0_1] 40 (0, 0)) (zz7 BK422) hb); replace BK423 := Aside0.mk (blk_below (g := gb423) (o := .cells #[.int .i64 a1_0, .int .i64 a1_1] 40 (0, 0)) (zz7 BK423) hb); replace HB := Aside0.mk (below_step (zz16 GE422 GE423) hb); clear hb; have hcz18_0 : w17.cell? ⟨gb423, 0, none⟩ = some (.int .i64 a1_0) := (blk_cell BK423.out 0).trans rfl; have hcz18_1 : w17.cell? ⟨gb423, 1, none⟩ = some (.int .i64 a1_1) := (blk_cell BK423.out 1).trans rfl; have hfz18_0 := blk_frozen BK423.out 0; have hfz18_1 := blk_frozen BK423.out 1; have hcz19_0 : w17.cell? ⟨gb422, 0, none⟩ = some (.int .i64 a0_0) := (blk_cell BK422.out 0).trans rfl; have hcz19_1 : w17.cell? ⟨gb422, 1, none⟩ = some (.int .i64 a0_1) := (blk_cell BK422.out 1).trans rfl; have hfz19_0 := blk_frozen BK422.out 0; have hfz19_1 := blk_frozen BK422.out 1) | (go_at_call 71; (with_reducible refine (impl_BlockIn.calls a1_0 a1_1 a0_0 a0_1 t425 _ A11.out).mono ?_); rintro e w20 ⟨rfl, hb⟩; replace BK422 := Aside0.mk (blk_below (g := gb422) (o := .cells #[.int .i64 a0_0, .int .i64 a0_1] 40 (0, 0)) (zz7 BK422) hb); replace BK423 := Aside0.mk (blk_below (g := gb423) (o := .cells #[.int .i64 a1_0, .int .i64 a1_1] 40 (0, 0)) (zz7 BK423) hb); replace HB := Aside0.mk (below_step (zz16 GE422 GE423) hb); clear hb))
  go_ret
  exact ⟨zz8, zz16 GE422 GE423⟩

end Go.Proofs.Ythkjkmgbdahggaa.PO
