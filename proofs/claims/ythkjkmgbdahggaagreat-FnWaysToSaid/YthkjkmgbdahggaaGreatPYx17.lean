/- A text printed by this session's wip/myprint.py over the kit's print: contracts of functions of the given program, each at what its Lean function says. -/
import Derived.Test.YthkjkmgbdahggaaGreatPYx0
import Derived.Test.YthkjkmgbdahggaaGreatPYx1
import Derived.Test.YthkjkmgbdahggaaGreatPYx2
import Derived.Test.YthkjkmgbdahggaaGreatPYx6
import Derived.Test.YthkjkmgbdahggaaGreatPYx7
import Derived.Test.YthkjkmgbdahggaaGreatPYx16
namespace Go.Proofs.YthkjkmgbdahggaaGreat.PY
open Go.RowKit Go.Proofs.YthkjkmgbdahggaaGreatW.PrintWords Go.Proofs.YthkjkmgbdahggaaGreatW.PrintLast Go.Proofs.YthkjkmgbdahggaaGreatW.PrintMore Go.Proofs.YthkjkmgbdahggaaGreat.Sq
attribute [local go_sem] max2_int min2_int max_two min_two max_three min_three max_four min_four   -- for this text's walks alone
set_option linter.unusedVariables false
set_option linter.unusedSimpArgs false
attribute [local go_sem high] eqA32
def spec_DrawWaysLead.j0 : Nat → List (S34) → Bool → List Int → Int → Option ((List (S34)) × Int)
 | 0, _, _, _, _ => none
 | k + 1, x5, x17, x567000, x567001 => if x17 = true then ((spec_l1Rd_pick.f k x567000 x567001 (x5.length : Int)).bind fun bt573 => (if 0 ≤ bt573.1 then (if bt573.1 < (x5.length : Int) then (some (x5, (rd_T34 x5 bt573.1).f0.f0)) else (none)) else (none))) else ((spec_l12AnyAddr.f k x567000 x567001).bind fun bt576 => (some (x5, bt576.1)))
def spec_DrawWaysLead.f (k : Nat) (l0 : List Int) : Option ((List (S34)) × Int) := (spec_l1Open.f l0).bind fun bt564 => ((spec_l12AnyWays.f k bt564.1 bt564.2).bind fun bt567 => (if (bt567.1.length : Int) > 0 then ((spec_l1Rd_pick.f k bt564.1 bt567.2 2).bind fun bt571 => (spec_DrawWaysLead.j0 k bt567.1 (bt571.1 == 0) bt564.1 bt571.2)) else (spec_DrawWaysLead.j0 k bt567.1 false bt564.1 bt567.2)))
def spec_DrawWaysLead.T4 : Bool × List (List Nat × List Nat) := (true, [([], []), ([], []), ([], []), ([], []), ([3], [3]), ([2, 4], [2, 4]), ([1, 5], [1, 5]), ([6], [6]), ([7], [7]), ([8], [8]), ([0, 5, 0], [0]), ([9, 10, 0, 1, 2, 3, 4, 5, 6, 7, 8, 9, 10], [9])])
def spec_DrawWaysLead.B4 : List Nat := [0, 0, 0, 0, 8, 28, 62, 126, 254, 510, 61, 2047]
theorem spec_DrawWaysLead.tab4 : rtab .any (opsOf Tryz.f8 4) = spec_DrawWaysLead.T4 := by kernel_rfl
theorem spec_DrawWaysLead.bits4 : waitsOk spec_DrawWaysLead.T4.2 spec_DrawWaysLead.B4 = true := by kernel_rfl
set_option maxHeartbeats 8000000 in
set_option maxRecDepth 100000 in
theorem spec_DrawWaysLead.calls (k : Nat) (A0 : Option Addr) (c0 : Nat) (l0 : List Int) (r1 : List (S34)) (r2 : Int) (w : World) (hr0 : Kd.C (Kd.int .u8) w A0 l0.length l0) (hc0 : l0.length ≤ c0) (h : spec_DrawWaysLead.f k l0 = some (r1, r2)) :
  Calls Tryz.prog 8 #[.slice A0 l0.length c0] w fun e w' => ∃ v0_ : Value, e = .returned (.tuple #[v0_, .int .i64 r2]) ∧ Kd.R k34 34 w' w.heap.size (fun _ => True) v0_ r1 ∧ Below w.heap.size w w' := by
 have HR0 := Aside0.mk hr0
 have HC0 := Aside0.mk hc0
 clear hr0 hc0
 have HB := Aside0.mk (Below.refl w.heap.size w)
 have H : ((spec_l1Open.f l0).bind fun bt564 => ((spec_l12AnyWays.f k bt564.1 bt564.2).bind fun bt567 => (if (bt567.1.length : Int) > 0 then ((spec_l1Rd_pick.f k bt564.1 bt567.2 2).bind fun bt571 => (spec_DrawWaysLead.j0 k bt567.1 (bt571.1 == 0) bt564.1 bt571.2)) else (spec_DrawWaysLead.j0 k bt567.1 false bt564.1 bt567.2)))) = some (r1, r2) := h
 clear h
 replace H := bd H
 obtain ⟨⟨t564, t565⟩, A2, H⟩ := H
 replace H : ((spec_l12AnyWays.f k t564 t565).bind fun bt567 => (if (bt567.1.length : Int) > 0 then ((spec_l1Rd_pick.f k t564 bt567.2 2).bind fun bt571 => (spec_DrawWaysLead.j0 k bt567.1 (bt571.1 == 0) t564 bt571.2)) else (spec_DrawWaysLead.j0 k bt567.1 false t564 bt567.2))) = some (r1, r2) := H
 replace H := bd H
 obtain ⟨⟨t567, t570⟩, A3, H⟩ := H
 replace H : (if (t567.length : Int) > 0 then ((spec_l1Rd_pick.f k t564 t570 2).bind fun bt571 => (spec_DrawWaysLead.j0 k t567 (bt571.1 == 0) t564 bt571.2)) else (spec_DrawWaysLead.j0 k t567 false t564 t570)) = some (r1, r2) := H
 have HC4 := Aside0.mk H
 clear H
 go_enter Tryz.func8, Tryz.ntmps8
 go_upto_region 3 with (first | (refine gc (some 7) Tryz.func13 #[.slice A0 l0.length c0] ?_; (with_reducible refine (spec_l1Open.calls _ _ l0 t564 t565 w _ ?side1 ?side2 ?side3 A2.out).mono ?_); (case side1 => exact zz3); (case side2 => exact HR0.out); (case side3 => exact HC0.out); rintro e w5 ⟨g566, rfl, hi, hb, hb2⟩; refine ⟨_, rfl, ?_⟩; replace HB := Aside0.mk hb; have HI566 := Aside0.mk hi; clear hb hb2 hi) | (refine gc (some 9) Tryz.func14 #[.pointer (some ⟨g566, 0, none⟩)] ?_; (with_reducible refine (spec_l12AnyWays.calls k g566 t564 t565 t567 t570 w _ ?side1 ?side2 A3.out).mono ?_); (case side1 => exact zz10 HI566); (case side2 => exact zz12 HI566); rintro e w6 ⟨v568, rfl, ho0, hi, hb, hk⟩; refine ⟨_, rfl, ?_⟩; have HO569 := Aside0.mk (Kd.R_lower ho0 (below_size (zz12 HI566))); replace HB := Aside0.mk hb; replace HI566 := Aside0.mk hi; clear hb hk hi ho0))
 (try simp only [Act.put, List.setIfInBounds_toArray, List.set_cons_zero, List.set_cons_succ])
 go_cut [17] (fun v17 wc => ∃ (kq : Nat) (x17_3 : Bool) (x567001_3 : Int), v17 = .bool x17_3 ∧ Aside0 (spec_DrawWaysLead.j0 kq t567 x17_3 t564 x567001_3 = some (r1, r2)) ∧ Aside0 (kq ≤ k) ∧ Aside0 (Kd.R k34 34 wc w.heap.size (fun _ => True) v568 t567) ∧ Aside0 (IsS64 w wc g566 t564 x567001_3) ∧ Aside0 (Below w.heap.size w wc))
 case first =>
  have H := HC4.out
  clear HC4
  by_cases c7 : (t567.length : Int) > 0
  ·rw [if_pos c7] at H
   have c7b0 : decide (0 < (t567.length : Int)) = true := decide_eq_true c7
   have c7b1 : decide (0 < t567.length) = true := decide_eq_true (by omega)
   clear c7
   (first | rw [c7b0] | (simp only [i64_w, i32_w]; rw [c7b0]) | skip)
   replace H := bd H
   obtain ⟨⟨t571, t572⟩, A8, H⟩ := H
   replace H : (spec_DrawWaysLead.j0 k t567 (t571 == 0) t564 t572) = some (r1, r2) := H
   have H' := Aside0.mk H
   clear H
   obtain ⟨Ao9, co9, eo9⟩ := Kd.R_slice HO569.out
   subst eo9
   go_wp2_with (first | (go_at_call 28; (with_reducible refine (spec_l1Rd_pick.calls k g566 t564 t570 2 t571 t572 w _ ?side1 ?side2 A8.out).mono ?_); (case side1 => exact zz10 HI566); (case side2 => exact zz12 HI566); rintro e w10 ⟨rfl, hi, hb, hk⟩; replace HO569 := Aside0.mk (Kd.R_mono (Kd.R_keep (IsS64.apart (show IsS64 w _ g566 t564 t570 from zz10 HI566) (zz22 HO569) (by decide)) hk (fun _ h => h.2)) (fun _ h => h.1)); replace HB := Aside0.mk hb; replace HI566 := Aside0.mk hi; clear hb hk hi))
   go_meet
   case rel => exact ⟨_, ((t571 == 0)), (t572), zz8, H', ⟨zz9⟩, ⟨zz22 HO569⟩, ⟨zz10 HI566⟩, ⟨zz12 HI566⟩⟩
  ·rw [if_neg c7] at H
   have c7b0 : decide (0 < (t567.length : Int)) = false := decide_eq_false c7
   have c7b1 : decide (0 < t567.length) = false := decide_eq_false (by omega)
   clear c7
   (first | rw [c7b0] | (simp only [i64_w, i32_w]; rw [c7b0]) | skip)
   have H' := Aside0.mk H
   clear H
   obtain ⟨Ao11, co11, eo11⟩ := Kd.R_slice HO569.out
   subst eo11
   go_wp2
   go_meet
   case rel => exact ⟨_, (false), (t570), zz8, H', ⟨zz9⟩, ⟨zz22 HO569⟩, ⟨zz10 HI566⟩, ⟨zz12 HI566⟩⟩
 case rest =>
  clear HC4
  try clear c1
  try clear p2
  try clear c7
  try clear c7b0
  try clear c7b1
  try clear c8
  obtain ⟨kq, x17_3, x567001_3, rfl, HA, HJ3, HO_5, HI566, HB⟩ := hcut
  cases kq with
  | zero => exact absurd HA.out (by simp [spec_DrawWaysLead.j0])
  | succ kj3 =>
   have H := HA.out
   clear HA
   simp only [spec_DrawWaysLead.j0] at H
   by_cases c12 : x17_3 = true
   ·subst c12
    have H1 : ((spec_l1Rd_pick.f kj3 t564 x567001_3 (t567.length : Int)).bind fun bt573 => (if 0 ≤ bt573.1 then (if bt573.1 < (t567.length : Int) then (some (t567, (rd_T34 t567 bt573.1).f0.f0)) else (none)) else (none))) = some (r1, r2) := by rw [if_pos rfl] at H; exact H
    clear H
    have H := H1
    clear H1
    replace H := bd H
    obtain ⟨⟨t573, t574⟩, A13, H⟩ := H
    replace H : (if 0 ≤ t573 then (if t573 < (t567.length : Int) then (some (t567, (rd_T34 t567 t573).f0.f0)) else (none)) else (none)) = some (r1, r2) := H
    replace H := gd H
    obtain ⟨c14b0, H⟩ := H
    replace H := gd H
    obtain ⟨c15b0, H⟩ := H
    simp only [Option.some.injEq, Prod.mk.injEq] at H
    obtain ⟨rfl, rfl⟩ := H
    try go_wp2
    replace HO_5 := Aside0.mk (Kd.R_drew HO_5.out)
    replace HI566 := Aside0.mk (IsS64.drew HI566.out)
    replace HB := Aside0.mk (below_drew1 HB.out)
    obtain ⟨Ao17, co17, eo17⟩ := Kd.R_slice HO_5.out
    (first | subst eo17 | (injection eo17 with f1_ f2_ f3_; have f4_ := f1_.symm; have f5_ := f3_.symm; clear f1_ f2_ f3_; subst f4_; subst f5_))
    obtain ⟨⟨ad575, e575, hx575_0, hx575_1, hx575_2⟩, p575, q575⟩ := wi (at_T34 (Kd.R_reads' HO_5.out).2.2 t573)
    cases e575
    refine start_ (n := 12) (S := fun w' => w'.cell? (ad575.add ((t573).toNat * 3)) = some (.int .i64 ((rd_T34 t567 t573).f0.f0)) ∧ w'.cell? ⟨(ad575.add ((t573).toNat * 3)).block, (ad575.add ((t573).toNat * 3)).off + 1, none⟩ = some (.int .i64 ((rd_T34 t567 t573).f0.f1)) ∧ w'.cell? ⟨(ad575.add ((t573).toNat * 3)).block, (ad575.add ((t573).toNat * 3)).off + 2, none⟩ = some (.int .i64 ((rd_T34 t567 t573).f1))) (ds := []) (bm 12 0) (by kernel_rfl) rfl rfl ⟨hx575_0, hx575_1, hx575_2⟩ (fun hHeld => ?_); refine with_tabW spec_DrawWaysLead.tab4 spec_DrawWaysLead.bits4 (fun HT_ HW_ => ?_)
    generalize wc.drew = w16 at HO_5 HI566 HB hx575_0 hx575_1 hx575_2 hHeld ⊢
    refine pu 0 18 (bm 12 1) ?_
    refine pu 1 19 (bm 12 3) ?_
    refine pu 2 20 (bm 12 7) ?_
    refine pu 3 21 (bm 12 15) ?_
    refine pu 4 22 (bm 12 31) ?_
    refine on 5 (some 23) (bm 12 63) (fun K hK => ?_)
    refine gs Tryz.func28 #[.pointer (some ⟨g566, 0, none⟩), .int .i64 (t567.length : Int)] ?_
    with_reducible refine (spec_l1Rd_pick.calls kj3 g566 t564 x567001_3 (t567.length : Int) t573 t574 w _ ?side1 ?side2 A13.out).mono ?_
    (case side1 => exact zz10 HI566)
    (case side2 => exact zz12 HI566)
    rintro e w18 ⟨rfl, hi, hb, hk⟩
    have HS0_ := keep_cell hk (hHeld.1) (zz71 HI566 HO_5)
    have HS1_ := keep_cell hk (hHeld.2.1) (zz71 HI566 HO_5)
    have HS2_ := keep_cell hk (hHeld.2.2) (zz71 HI566 HO_5)
    refine ⟨_, rfl, ?_⟩
    replace HO_5 := Aside0.mk (Kd.R_mono (Kd.R_keep (IsS64.apart (show IsS64 w _ g566 t564 x567001_3 from zz10 HI566) (zz22 HO_5) (by decide)) hk (fun _ h => h.2)) (fun _ h => h.1))
    replace HB := Aside0.mk hb
    replace HI566 := Aside0.mk hi
    (try clear hb)
    (try clear hb2)
    (try clear hk)
    (try clear hi)
    refine hK.out _ _ ⟨HS0_, HS1_, HS2_⟩ (fun hHeld => ?_)
    clear hK K
    refine nm 23 ?_
    refine pu 6 24 (bm 12 127) ?_
    refine pu 7 25 (bm 12 255) ?_
    refine pu 8 26 (bm 12 511) ?_
    refine pu 10 2 (bm 12 1535) ?_
    refine tk 9 27 (bm 12 2047) ?_
    refine pu 11 3 (bm 12 4095) ?_
    refine done_ (done_of HT_.out (by kernel_rfl)) ?_
    try go_wp2
    go_ret2
    exact ⟨_, zz13, zz22 HO_5, zz12 HI566⟩
   ·replace c12 := Bool.eq_false_iff.mpr c12
    subst c12
    have H1 : ((spec_l12AnyAddr.f kj3 t564 x567001_3).bind fun bt576 => (some (t567, bt576.1))) = some (r1, r2) := by rw [if_neg (show ¬ (false = true) by decide)] at H; exact H
    clear H
    have H := H1
    clear H1
    replace H := bd H
    obtain ⟨⟨t576, t577⟩, A19, H⟩ := H
    replace H : (some (t567, t576)) = some (r1, r2) := H
    simp only [Option.some.injEq, Prod.mk.injEq] at H
    obtain ⟨rfl, rfl⟩ := H
    go_wp2_with (first | (refine gc (some 30) Tryz.func29 #[.pointer (some ⟨g566, 0, none⟩)] ?_; (with_reducible refine (spec_l12AnyAddr.calls kj3 g566 t564 x567001_3 t576 t577 w _ ?side1 ?side2 A19.out).mono ?_); (case side1 => exact zz10 HI566); (case side2 => exact zz12 HI566); rintro e w20 ⟨rfl, hi, hb, hk⟩; refine ⟨_, rfl, ?_⟩; replace HO_5 := Aside0.mk (Kd.R_mono (Kd.R_keep (IsS64.apart (show IsS64 w _ g566 t564 x567001_3 from zz10 HI566) (zz22 HO_5) (by decide)) hk (fun _ h => h.2)) (fun _ h => h.1)); replace HB := Aside0.mk hb; replace HI566 := Aside0.mk hi; clear hb hk hi))
    go_ret2
    exact ⟨_, zz13, zz22 HO_5, zz12 HI566⟩
-- NOT PRINTED: function 55 (impl_Block_55)
-- NOT PRINTED: function 34 (impl_Block_34)
def impl_blocksOk_1.f (a0_0 : Int) (a0_1 : Int) : Option (Bool) := (impl_BlockOk.f a0_0 a0_1).bind fun t579 => (some (!t579))
set_option maxHeartbeats 8000000 in
set_option maxRecDepth 100000 in
theorem impl_blocksOk_1.calls (a0_0 : Int) (a0_1 : Int) (r : Bool) (w : World) (h : impl_blocksOk_1.f a0_0 a0_1 = some r) :
  Calls Tryz.prog 54 #[.agg #[.int .i64 a0_0, .int .i64 a0_1]] w fun e w' => e = .returned (.bool r) ∧ Below w.heap.size w w' := by
 have hu32 := Tryz.underlying32
 have HB := Aside0.mk (Below.refl w.heap.size w)
 have H : ((impl_BlockOk.f a0_0 a0_1).bind fun t579 => (some (!t579))) = some r := h
 clear h
 replace H := bd H
 obtain ⟨t579, A2, H⟩ := H
 replace H : (some (!t579)) = some r := H
 obtain rfl := Option.some.inj H
 go_enter Tryz.func54, Tryz.ntmps54
 go_wp2_with (first | (refine be 1 #[.int .i64 a0_0, .int .i64 a0_1] 32 ?_; intro gb578 hg w3 hbox hb; have BK578 := Aside0.mk hbox; have GW578 := Aside0.mk (zz16 : w.heap.size ≤ gb578); have GE578 := Aside0.mk (zz16 : w.heap.size ≤ gb578); replace HB := Aside0.mk (below_step zz3 hb); clear hb hbox hg; have hcz4_0 : w3.cell? ⟨gb578, 0, none⟩ = some (.int .i64 a0_0) := (blk_cell BK578.out 0).trans rfl; have hcz4_1 : w3.cell? ⟨gb578, 1, none⟩ = some (.int .i64 a0_1) := (blk_cell BK578.out 1).trans rfl; have hfz4_0 := blk_frozen BK578.out 0; have hfz4_1 := blk_frozen BK578.out 1) | (refine gc (some 4) Tryz.func40 #[.agg #[.int .i64 a0_0, .int .i64 a0_1]] ?_; (with_reducible refine (impl_BlockOk.calls a0_0 a0_1 t579 _ A2.out).mono ?_); rintro e w5 ⟨rfl, hb⟩; refine ⟨_, rfl, ?_⟩; replace BK578 := Aside0.mk (blk_below (g := gb578) (o := .cells #[.int .i64 a0_0, .int .i64 a0_1] 32 (0, 0)) (zz5 BK578) hb); replace HB := Aside0.mk (below_step (zz6 GE578) hb); clear hb))
 go_ret
 exact ⟨zz13, zz6 GE578⟩
def impl_Block_55_54.l0 : Nat → List (S32) → Int → Int → Option (Int)
 | 0, _, _, _ => none
 | k + 1, x0, x7, x8 => if x8 < x7 then (if 0 ≤ x8 then (if x8 < (x0.length : Int) then ((impl_blocksOk_1.f ((rd_T32 x0 x8).f0) ((rd_T32 x0 x8).f1)).bind fun t581 => (if t581 = true then (some x8) else (impl_Block_55_54.l0 k x0 x7 (wrap64 (x8 + 1))))) else (none)) else (none)) else (some (-1))
def impl_Block_55_54.f (k : Nat) (l0 : List (S32))  : Option (Int) := impl_Block_55_54.l0 k l0 (l0.length : Int) 0
set_option maxHeartbeats 8000000 in
set_option maxRecDepth 100000 in
theorem impl_Block_55_54.calls (k : Nat) (A0 : Option Addr) (c0 : Nat) (l0 : List (S32))  (r : Int) (w : World) (hr0 : Kd.C k32 w A0 l0.length l0) (hc0 : l0.length ≤ c0) (h : impl_Block_55_54.f k l0 = some r) :
  Calls Tryz.prog 55 #[.slice A0 l0.length c0, .func (.func 54) #[] #[]] w fun e w' => e = .returned (.int .i64 r) ∧ Below w.heap.size w w' := by
 have hu32 := Tryz.underlying32
 have HR0 := Aside0.mk hr0
 have HC0 := Aside0.mk hc0
 clear hr0 hc0
 have HB := Aside0.mk (Below.refl w.heap.size w)
 have H : (impl_Block_55_54.l0 k l0 (l0.length : Int) 0) = some r := h
 clear h
 have H' := Aside0.mk H
 clear H
 go_enter Tryz.func55, Tryz.ntmps55
 go_wp2
 go_loopg [8] k (fun kq v8 w' => ∃ (x8_1 : Int), v8 = .int .i64 x8_1 ∧ Aside0 (impl_Block_55_54.l0 kq l0 (l0.length : Int) x8_1 = some r) ∧ Aside0 (kq ≤ k) ∧ Aside0 (Below w.heap.size w w'))
 case atStart => exact ⟨(0), zz8, H', ⟨Nat.le_refl _⟩, ⟨zz3⟩⟩
 case round =>
  clear H'
  try clear p2
  obtain ⟨x8_1, rfl, HA, HK1, HB⟩ := hrel
  cases gk with
  | zero => exact absurd HA.out (by simp [impl_Block_55_54.l0])
  | succ k1 =>
   have H := HA.out
   clear HA
   simp only [impl_Block_55_54.l0] at H
   replace H := ic H
   rcases H with ⟨c3b0, H⟩ | ⟨c3b0, H⟩
   ·replace H := gd H
    obtain ⟨c4b0, H⟩ := H
    replace H := gd H
    obtain ⟨c5b0, H⟩ := H
    replace H := bd H
    obtain ⟨t581, A6, H⟩ := H
    replace H : (if t581 = true then (some x8_1) else (impl_Block_55_54.l0 k1 l0 (l0.length : Int) (wrap64 (x8_1 + 1)))) = some r := H
    by_cases c7 : t581 = true
    ·subst c7
     have H1 : (some x8_1) = some r := by rw [if_pos rfl] at H; exact H
     clear H
     have H := H1
     clear H1
     obtain rfl := Option.some.inj H
     obtain ⟨⟨ad580, e580, hx580_0, hx580_1⟩, p580, q580⟩ := wi (at_T32 HR0.out x8_1)
     cases e580
     replace hx580_0 := (HB.out.cell (World.block_lt_of_cell? w _ hx580_0)).trans hx580_0
     replace hx580_1 := (HB.out.cell (World.block_lt_of_cell? w _ hx580_1)).trans hx580_1
     go_wp2_with (first | (go_at_call 54; (with_reducible refine (impl_blocksOk_1.calls ((rd_T32 l0 x8_1).f0) ((rd_T32 l0 x8_1).f1) true _ A6.out).mono ?_); rintro e w8 ⟨rfl, hb⟩; replace HB := Aside0.mk (below_step zz3 hb); clear hb))
     go_ret
     exact ⟨zz13, zz3⟩
    ·replace c7 := Bool.eq_false_iff.mpr c7
     subst c7
     have H1 : (impl_Block_55_54.l0 k1 l0 (l0.length : Int) (wrap64 (x8_1 + 1))) = some r := by rw [if_neg (show ¬ (false = true) by decide)] at H; exact H
     clear H
     have H := H1
     clear H1
     have H' := Aside0.mk H
     clear H
     obtain ⟨⟨ad580, e580, hx580_0, hx580_1⟩, p580, q580⟩ := wi (at_T32 HR0.out x8_1)
     cases e580
     replace hx580_0 := (HB.out.cell (World.block_lt_of_cell? w _ hx580_0)).trans hx580_0
     replace hx580_1 := (HB.out.cell (World.block_lt_of_cell? w _ hx580_1)).trans hx580_1
     go_wp2_with (first | (go_at_call 54; (with_reducible refine (impl_blocksOk_1.calls ((rd_T32 l0 x8_1).f0) ((rd_T32 l0 x8_1).f1) false _ A6.out).mono ?_); rintro e w9 ⟨rfl, hb⟩; replace HB := Aside0.mk (below_step zz3 hb); clear hb))
     go_roundg k1
     case measure => have := HK1.out; omega
     case rel => exact ⟨(wrap64 (x8_1 + 1)), zz8, H', ⟨zz15 HK1⟩, ⟨zz3⟩⟩
   ·obtain rfl := Option.some.inj H
    go_wp2
    go_ret
    exact ⟨zz13, zz3⟩
def impl_Block_34_54.f (k : Nat) (l0 : List (S32))  : Option (Bool) := (impl_Block_55_54.f k l0).bind fun t582 => (some (decide (t582 ≥ 0)))
set_option maxHeartbeats 8000000 in
set_option maxRecDepth 100000 in
theorem impl_Block_34_54.calls (k : Nat) (A0 : Option Addr) (c0 : Nat) (l0 : List (S32))  (r : Bool) (w : World) (hr0 : Kd.C k32 w A0 l0.length l0) (hc0 : l0.length ≤ c0) (h : impl_Block_34_54.f k l0 = some r) :
  Calls Tryz.prog 34 #[.slice A0 l0.length c0, .func (.func 54) #[] #[]] w fun e w' => e = .returned (.bool r) ∧ Below w.heap.size w w' := by
 have HR0 := Aside0.mk hr0
 have HC0 := Aside0.mk hc0
 clear hr0 hc0
 have HB := Aside0.mk (Below.refl w.heap.size w)
 have H : ((impl_Block_55_54.f k l0).bind fun t582 => (some (decide (t582 ≥ 0)))) = some r := h
 clear h
 replace H := bd H
 obtain ⟨t582, A3, H⟩ := H
 replace H : (some (decide (t582 ≥ 0))) = some r := H
 obtain rfl := Option.some.inj H
 go_enter Tryz.func34, Tryz.ntmps34
 go_wp2_with (first | (refine gc (some 7) Tryz.func55 #[.slice A0 l0.length c0, .func (.func 54) #[] #[]] ?_; (with_reducible refine (impl_Block_55_54.calls k _ _ l0  t582 _ ?side1 ?side2 A3.out).mono ?_); (case side1 => exact zz49 HR0); (case side2 => exact HC0.out); rintro e w4 ⟨rfl, hb⟩; refine ⟨_, rfl, ?_⟩; replace HB := Aside0.mk (below_step zz3 hb); clear hb))
 go_ret
 exact ⟨zz13, zz3⟩
def impl_blocksOk.f (k : Nat) (l0 : List (S32)) : Option (Bool) := if (l0.length : Int) ≤ 64 then ((impl_Block_34_54.f k l0).bind fun t583 => (some (!t583))) else (some false)
set_option maxHeartbeats 8000000 in
set_option maxRecDepth 100000 in
theorem impl_blocksOk.calls (k : Nat) (A0 : Option Addr) (c0 : Nat) (l0 : List (S32)) (r : Bool) (w : World) (hr0 : Kd.C k32 w A0 l0.length l0) (hc0 : l0.length ≤ c0) (h : impl_blocksOk.f k l0 = some r) :
  Calls Tryz.prog 31 #[.slice A0 l0.length c0] w fun e w' => e = .returned (.bool r) ∧ Below w.heap.size w w' := by
 have HR0 := Aside0.mk hr0
 have HC0 := Aside0.mk hc0
 clear hr0 hc0
 have HB := Aside0.mk (Below.refl w.heap.size w)
 have H : (if (l0.length : Int) ≤ 64 then ((impl_Block_34_54.f k l0).bind fun t583 => (some (!t583))) else (some false)) = some r := h
 clear h
 by_cases c2 : (l0.length : Int) ≤ 64
 ·rw [if_pos c2] at H
  have c2b0 : decide ((l0.length : Int) ≤ 64) = true := decide_eq_true c2
  have c2b1 : decide (l0.length ≤ 64) = true := decide_eq_true (by omega)
  clear c2
  replace H := bd H
  obtain ⟨t583, A3, H⟩ := H
  replace H : (some (!t583)) = some r := H
  obtain rfl := Option.some.inj H
  go_enter Tryz.func31, Tryz.ntmps31
  go_wp2_with (first | (go_at_call 34; (with_reducible refine (impl_Block_34_54.calls k _ _ l0  t583 _ ?side1 ?side2 A3.out).mono ?_); (case side1 => exact zz49 HR0); (case side2 => exact HC0.out); rintro e w4 ⟨rfl, hb⟩; replace HB := Aside0.mk (below_step zz3 hb); clear hb))
  go_ret
  exact ⟨zz13, zz3⟩
 ·rw [if_neg c2] at H
  have c2b0 : decide ((l0.length : Int) ≤ 64) = false := decide_eq_false c2
  have c2b1 : decide (l0.length ≤ 64) = false := decide_eq_false (by omega)
  clear c2
  obtain rfl := Option.some.inj H
  go_enter Tryz.func31, Tryz.ntmps31
  go_wp2
  go_ret
  exact ⟨zz13, zz3⟩
def impl_Block_32.l0 : Nat → List (S32) → List (S32) → Int → Int → Option (Bool)
 | 0, _, _, _, _ => none
 | k + 1, x0, x1, x12, x13 => if x13 < x12 then (if 0 ≤ x13 then (if x13 < (x0.length : Int) then (if x13 < (x1.length : Int) then (if (!(((rd_T32 x0 x13).f0) == ((rd_T32 x1 x13).f0)) || (!(((rd_T32 x0 x13).f1) == ((rd_T32 x1 x13).f1)))) = true then (some false) else (impl_Block_32.l0 k x0 x1 x12 (wrap64 (x13 + 1)))) else (none)) else (none)) else (none)) else (some true)
def impl_Block_32.f (k : Nat) (l0 : List (S32)) (l1 : List (S32)) : Option (Bool) := if (l0.length : Int) = (l1.length : Int) then (impl_Block_32.l0 k l0 l1 (l0.length : Int) 0) else (some false)
set_option maxHeartbeats 8000000 in
set_option maxRecDepth 100000 in
theorem impl_Block_32.calls (k : Nat) (A0 : Option Addr) (c0 : Nat) (l0 : List (S32)) (A1 : Option Addr) (c1 : Nat) (l1 : List (S32)) (r : Bool) (w : World) (hr0 : Kd.C k32 w A0 l0.length l0) (hc0 : l0.length ≤ c0) (hr1 : Kd.C k32 w A1 l1.length l1) (hc1 : l1.length ≤ c1) (h : impl_Block_32.f k l0 l1 = some r) :
  Calls Tryz.prog 32 #[.slice A0 l0.length c0, .slice A1 l1.length c1] w fun e w' => e = .returned (.bool r) ∧ Drawn0 w w' := by
 have hu32 := Tryz.underlying32
 have HR0 := Aside0.mk hr0
 have HC0 := Aside0.mk hc0
 clear hr0 hc0
 have HR1 := Aside0.mk hr1
 have HC1 := Aside0.mk hc1
 clear hr1 hc1
 have H : (if (l0.length : Int) = (l1.length : Int) then (impl_Block_32.l0 k l0 l1 (l0.length : Int) 0) else (some false)) = some r := h
 clear h
 by_cases c3 : (l0.length : Int) = (l1.length : Int)
 ·rw [if_pos c3] at H
  have c3b0 : ((l0.length : Int) == (l1.length : Int)) = true := beq_iff_eq.mpr c3
  have c3b1 : ((l0.length : Int) != (l1.length : Int)) = false := bne_eq_false_iff_eq.mpr c3
  have c3b2 : (l0.length == l1.length) = true := by first | simpa using c3 | (simp at c3 ⊢; omega)
  clear c3
  have H' := Aside0.mk H
  clear H
  go_enter Tryz.func32, Tryz.ntmps32
  go_wp2
  repeat (go_quiet (fail); try go_wp2)
  go_loopg [13] k (fun kq v13 w' => ∃ (x13_1 : Int), v13 = .int .i64 x13_1 ∧ Aside0 (impl_Block_32.l0 kq l0 l1 (l0.length : Int) x13_1 = some r) ∧ Aside0 (kq ≤ k) ∧ Drawn0 w w')
  case atStart => exact ⟨(0), zz8, H', ⟨Nat.le_refl _⟩, zz14⟩
  case round =>
   clear H'
   try clear c1
   try clear p2
   try clear c3
   try clear c3b0
   try clear c3b1
   try clear c3b2
   obtain ⟨x13_1, rfl, HA, HK1, ⟨m1, rfl⟩⟩ := hrel
   cases gk with
   | zero => exact absurd HA.out (by simp [impl_Block_32.l0])
   | succ k1 =>
    have H := HA.out
    clear HA
    simp only [impl_Block_32.l0] at H
    replace H := ic H
    rcases H with ⟨c4b0, H⟩ | ⟨c4b0, H⟩
    ·replace H := gd H
     obtain ⟨c5b0, H⟩ := H
     replace H := gd H
     obtain ⟨c6b0, H⟩ := H
     replace H := gd H
     obtain ⟨c7b0, H⟩ := H
     by_cases c8 : (!(((rd_T32 l0 x13_1).f0) == ((rd_T32 l1 x13_1).f0)) || (!(((rd_T32 l0 x13_1).f1) == ((rd_T32 l1 x13_1).f1)))) = true
     ·rw [if_pos c8] at H
      have c8b0 : (!(((rd_T32 l0 x13_1).f0) == ((rd_T32 l1 x13_1).f0)) || (!(((rd_T32 l0 x13_1).f1) == ((rd_T32 l1 x13_1).f1)))) = true := c8
      clear c8
      obtain rfl := Option.some.inj H
      obtain ⟨⟨ad584, e584, hx584_0, hx584_1⟩, p584, q584⟩ := wi (at_T32 HR0.out x13_1)
      cases e584
      obtain ⟨⟨ad585, e585, hx585_0, hx585_1⟩, p585, q585⟩ := wi (at_T32 HR1.out x13_1)
      cases e585
      go_wp2
      repeat (go_quiet (fail); try go_wp2)
      go_ret
      exact ⟨zz8, zz14⟩
     ·rw [if_neg c8] at H
      have c8b0 : (!(((rd_T32 l0 x13_1).f0) == ((rd_T32 l1 x13_1).f0)) || (!(((rd_T32 l0 x13_1).f1) == ((rd_T32 l1 x13_1).f1)))) = false := by simpa using c8
      clear c8
      have H' := Aside0.mk H
      clear H
      obtain ⟨⟨ad584, e584, hx584_0, hx584_1⟩, p584, q584⟩ := wi (at_T32 HR0.out x13_1)
      cases e584
      obtain ⟨⟨ad585, e585, hx585_0, hx585_1⟩, p585, q585⟩ := wi (at_T32 HR1.out x13_1)
      cases e585
      go_wp2
      repeat (go_quiet (fail); try go_wp2)
      go_roundg k1
      case measure => have := HK1.out; omega
      case rel => exact ⟨(wrap64 (x13_1 + 1)), zz8, H', ⟨zz15 HK1⟩, zz14⟩
    ·obtain rfl := Option.some.inj H
     go_wp2
     repeat (go_quiet (fail); try go_wp2)
     go_ret
     exact ⟨zz8, zz14⟩
 ·rw [if_neg c3] at H
  have c3b0 : ((l0.length : Int) == (l1.length : Int)) = false := beq_eq_false_iff_ne.mpr c3
  have c3b1 : ((l0.length : Int) != (l1.length : Int)) = true := bne_iff_ne.mpr c3
  have c3b2 : (l0.length == l1.length) = false := by first | simpa using c3 | (simp at c3 ⊢; omega)
  obtain rfl := Option.some.inj H
  go_enter Tryz.func32, Tryz.ntmps32
  go_wp2
  repeat (go_quiet (fail); try go_wp2)
  go_ret
  exact ⟨zz8, zz14⟩
end Go.Proofs.YthkjkmgbdahggaaGreat.PY
