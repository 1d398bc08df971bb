/- A text printed by this session's wip/myprint.py over the kit's print: contracts of functions of the given program, each at what its Lean function says. -/
import Derived.Test.YthkjkmgbdahggaaGreatPYx0
import Derived.Test.YthkjkmgbdahggaaGreatPYx2
import Derived.Test.YthkjkmgbdahggaaGreatPYx3
import Derived.Test.YthkjkmgbdahggaaGreatPYx4
namespace Go.Proofs.YthkjkmgbdahggaaGreat.PY
open Go.RowKit Go.Proofs.YthkjkmgbdahggaaGreatW.PrintWords Go.Proofs.YthkjkmgbdahggaaGreatW.PrintLast Go.Proofs.YthkjkmgbdahggaaGreatW.PrintMore Go.Proofs.YthkjkmgbdahggaaGreat.Sq
attribute [local go_sem] max2_int min2_int max_two min_two max_three min_three max_four min_four   -- for this text's walks alone
set_option linter.unusedVariables false
set_option linter.unusedSimpArgs false
def spec_WaysPut.j0 : Nat → List (S34) → List (S34) → Bool → Int → Int → Int → Option ((List (S34)) × Bool)
 | 0, _, _, _, _, _, _ => none
 | k + 1, x0, x6, x24, x136000, x136001, x136002 => if x24 = true then (some (x6, false)) else ((spec_l3At.f k x0 x136000 x136001).bind fun bt145 => (if bt145.2 = true then (if 0 ≤ bt145.1 then (if bt145.1 < (x6.length : Int) then (some ((x6.set (bt145.1 : Int).toNat (⟨(⟨x136000, x136001⟩ : S32), x136002⟩ : S34)), true)) else (none)) else (none)) else (if (x0.length : Int) ≥ 40 then (some (x6, false)) else ((some (([] : List (S34)) : List (S34))).bind fun y148 => (if 0 ≤ bt145.1 then (if bt145.1 ≤ (x0.length : Int) then ((some (x0.take (bt145.1 : Int).toNat : List (S34))).bind fun y151 => (if y148.length + y151.length < 5864062014805 then ((some (y148 ++ y151 : List (S34))).bind fun y155 => ((some (([(⟨(⟨x136000, x136001⟩ : S32), x136002⟩ : S34)] : List (S34)) : List (S34))).bind fun y158 => (if y155.length + y158.length < 5864062014805 then ((some (y155 ++ y158 : List (S34))).bind fun y161 => ((some (x0.drop (bt145.1 : Int).toNat : List (S34))).bind fun y164 => (if y161.length + y164.length < 5864062014805 then (some ((y161 ++ y164), true)) else (none)))) else (none)))) else (none))) else (none)) else (none))))))
def spec_WaysPut.f (k : Nat) (l0 : List (S34)) (a1_0 : Int) (a1_1 : Int) (a1_2 : Int) : Option ((List (S34)) × Bool) := (spec_WaysOk.f k l0).bind fun t136 => (if t136 = true then ((spec_l3Copy.f l0).bind fun t140 => ((spec_BlockOk.f k a1_0 a1_1).bind fun t143 => (if t143 = true then ((spec_l1In.f a1_2 0 99).bind fun t144 => (spec_WaysPut.j0 k l0 t140 (!t144) a1_0 a1_1 a1_2)) else (spec_WaysPut.j0 k l0 t140 true a1_0 a1_1 a1_2)))) else (some ((([] : List (S34))), false)))
def spec_WaysPut.T12 : Bool × List (List Nat × List Nat) := (true, [([], []), ([], []), ([], []), ([1, 2], [1, 2]), ([0, 3], [0, 3]), ([], []), ([5], [5]), ([4, 6, 4], [4, 6]), ([], []), ([], []), ([8, 9], [8, 9]), ([7, 10, 7], [7, 10]), ([11, 11, 0, 1, 2, 3, 4, 5, 6, 7, 8, 9, 10, 11], [11]), ([12, 0, 1, 2, 3, 4, 5, 6, 7, 8, 9, 10, 11, 12], [])])
def spec_WaysPut.B12 : List Nat := [0, 0, 0, 6, 15, 0, 32, 127, 0, 0, 768, 2047, 4095, 8191]
theorem spec_WaysPut.tab12 : rtab .any (opsOf Tryz.f56 12) = spec_WaysPut.T12 := by kernel_rfl
theorem spec_WaysPut.bits12 : waitsOk spec_WaysPut.T12.2 spec_WaysPut.B12 = true := by kernel_rfl
set_option maxHeartbeats 8000000 in
set_option maxRecDepth 100000 in
theorem spec_WaysPut.calls (k : Nat) (A0 : Option Addr) (c0 : Nat) (l0 : List (S34)) (a1_0 : Int) (a1_1 : Int) (a1_2 : Int) (r1 : List (S34)) (r2 : Bool) (w : World) (hr0 : Kd.C k34 w A0 l0.length l0) (hc0 : l0.length ≤ c0) (h : spec_WaysPut.f k l0 a1_0 a1_1 a1_2 = some (r1, r2)) :
  Calls Tryz.prog 56 #[.slice A0 l0.length c0, .agg #[.int .i64 a1_0, .int .i64 a1_1, .int .i64 a1_2]] w fun e w' => ∃ v0_ : Value, e = .returned (.tuple #[v0_, .bool r2]) ∧ Kd.R k34 34 w' w.heap.size (fun _ => True) v0_ r1 ∧ Below w.heap.size w w' := by
 have hu34 := Tryz.underlying34
 have hu32 := Tryz.underlying32
 have HR0 := Aside0.mk hr0
 have HC0 := Aside0.mk hc0
 clear hr0 hc0
 have HB := Aside0.mk (Below.refl w.heap.size w)
 have H : ((spec_WaysOk.f k l0).bind fun t136 => (if t136 = true then ((spec_l3Copy.f l0).bind fun t140 => ((spec_BlockOk.f k a1_0 a1_1).bind fun t143 => (if t143 = true then ((spec_l1In.f a1_2 0 99).bind fun t144 => (spec_WaysPut.j0 k l0 t140 (!t144) a1_0 a1_1 a1_2)) else (spec_WaysPut.j0 k l0 t140 true a1_0 a1_1 a1_2)))) else (some ((([] : List (S34))), false)))) = some (r1, r2) := h
 clear h
 replace H := bd H
 obtain ⟨t136, A3, H⟩ := H
 replace H : (if t136 = true then ((spec_l3Copy.f l0).bind fun t140 => ((spec_BlockOk.f k a1_0 a1_1).bind fun t143 => (if t143 = true then ((spec_l1In.f a1_2 0 99).bind fun t144 => (spec_WaysPut.j0 k l0 t140 (!t144) a1_0 a1_1 a1_2)) else (spec_WaysPut.j0 k l0 t140 true a1_0 a1_1 a1_2)))) else (some ((([] : List (S34))), false))) = some (r1, r2) := H
 by_cases c4 : t136 = true
 ·subst c4
  have H1 : ((spec_l3Copy.f l0).bind fun t140 => ((spec_BlockOk.f k a1_0 a1_1).bind fun t143 => (if t143 = true then ((spec_l1In.f a1_2 0 99).bind fun t144 => (spec_WaysPut.j0 k l0 t140 (!t144) a1_0 a1_1 a1_2)) else (spec_WaysPut.j0 k l0 t140 true a1_0 a1_1 a1_2)))) = some (r1, r2) := by rw [if_pos rfl] at H; exact H
  clear H
  have H := H1
  clear H1
  replace H := bd H
  obtain ⟨t140, A5, H⟩ := H
  replace H : ((spec_BlockOk.f k a1_0 a1_1).bind fun t143 => (if t143 = true then ((spec_l1In.f a1_2 0 99).bind fun t144 => (spec_WaysPut.j0 k l0 t140 (!t144) a1_0 a1_1 a1_2)) else (spec_WaysPut.j0 k l0 t140 true a1_0 a1_1 a1_2))) = some (r1, r2) := H
  have HC6 := Aside0.mk H
  clear H
  go_enter Tryz.func56, Tryz.ntmps56
  go_upto_region 4 with (first | (refine be 3 #[.int .i64 a1_0, .int .i64 a1_1, .int .i64 a1_2] 34 ?_; intro gb135 hg w7 hbox hb; have BK135 := Aside0.mk hbox; have GW135 := Aside0.mk (zz16 : w.heap.size ≤ gb135); have GE135 := Aside0.mk (zz16 : w.heap.size ≤ gb135); replace HB := Aside0.mk (below_step zz3 hb); clear hb hbox hg) | (refine gc (some 10) Tryz.func23 #[.slice A0 l0.length c0] ?_; (with_reducible refine (spec_WaysOk.calls k _ _ l0 true _ ?side1 ?side2 A3.out).mono ?_); (case side1 => exact zz20 HR0); (case side2 => exact HC0.out); rintro e w8 ⟨rfl, hb⟩; refine ⟨_, rfl, ?_⟩; replace BK135 := Aside0.mk (blk_below (g := gb135) (o := .cells #[.int .i64 a1_0, .int .i64 a1_1, .int .i64 a1_2] 34 (0, 0)) (zz5 BK135) hb); replace HB := Aside0.mk (below_step (zz6 GE135) hb); clear hb) | (refine gc (some 14) Tryz.func70 #[.slice A0 l0.length c0] ?_; (with_reducible refine (spec_l3Copy.calls _ _ l0 t140 _ ?side1 ?side2 A5.out).mono ?_); (case side1 => exact zz20 HR0); (case side2 => exact HC0.out); rintro e w9 ⟨v141, rfl, ho0, hb⟩; refine ⟨_, rfl, ?_⟩; have HO142 := Aside0.mk (Kd.R_lower (Kd.R_newB ho0 (g := gb135) (o := .cells #[.int .i64 a1_0, .int .i64 a1_1, .int .i64 a1_2] 34 (0, 0)) (zz5 BK135)) (below_size (zz6 GE135))); replace BK135 := Aside0.mk (blk_below (g := gb135) (o := .cells #[.int .i64 a1_0, .int .i64 a1_1, .int .i64 a1_2] 34 (0, 0)) (zz5 BK135) hb); replace HB := Aside0.mk (below_step (zz6 GE135) hb); clear hb ho0))
  (try simp only [Act.put, List.setIfInBounds_toArray, List.set_cons_zero, List.set_cons_succ])
  go_cut [24] (fun v24 wc => ∃ (kq : Nat) (x24_5 : Bool), v24 = .bool x24_5 ∧ Aside0 (spec_WaysPut.j0 kq l0 t140 x24_5 a1_0 a1_1 a1_2 = some (r1, r2)) ∧ Aside0 (kq ≤ k) ∧ Aside0 (Kd.R k34 34 wc w.heap.size (fun k_ => k_ ≠ gb135) v141 t140) ∧ Aside0 (wc.heap[gb135]? = some (.cells #[.int .i64 a1_0, .int .i64 a1_1, .int .i64 a1_2] 34 (0, 0))) ∧ Aside0 (Below w.heap.size w wc))
  case first =>
   have H := HC6.out
   clear HC6
   replace H := bd H
   obtain ⟨t143, A10, H⟩ := H
   replace H : (if t143 = true then ((spec_l1In.f a1_2 0 99).bind fun t144 => (spec_WaysPut.j0 k l0 t140 (!t144) a1_0 a1_1 a1_2)) else (spec_WaysPut.j0 k l0 t140 true a1_0 a1_1 a1_2)) = some (r1, r2) := H
   by_cases c11 : t143 = true
   ·subst c11
    have H1 : ((spec_l1In.f a1_2 0 99).bind fun t144 => (spec_WaysPut.j0 k l0 t140 (!t144) a1_0 a1_1 a1_2)) = some (r1, r2) := by rw [if_pos rfl] at H; exact H
    clear H
    have H := H1
    clear H1
    replace H := bd H
    obtain ⟨t144, A12, H⟩ := H
    replace H : (spec_WaysPut.j0 k l0 t140 (!t144) a1_0 a1_1 a1_2) = some (r1, r2) := H
    have H' := Aside0.mk H
    clear H
    have hcz13_0 : w9.cell? ⟨gb135, 0, none⟩ = some (.int .i64 a1_0) := (blk_cell BK135.out 0).trans rfl
    have hcz13_1 : w9.cell? ⟨gb135, 1, none⟩ = some (.int .i64 a1_1) := (blk_cell BK135.out 1).trans rfl
    have hcz13_2 : w9.cell? ⟨gb135, 2, none⟩ = some (.int .i64 a1_2) := (blk_cell BK135.out 2).trans rfl
    have hfz13_0 := blk_frozen BK135.out 0
    have hfz13_1 := blk_frozen BK135.out 1
    have hfz13_2 := blk_frozen BK135.out 2
    go_wp2_with (first | (refine gc (some 17) Tryz.func47 #[.agg #[.int .i64 a1_0, .int .i64 a1_1]] ?_; (with_reducible refine (spec_BlockOk.calls k a1_0 a1_1 true _ A10.out).mono ?_); rintro e w14 ⟨rfl, hb⟩; refine ⟨_, rfl, ?_⟩; replace HO142 := Aside0.mk (Kd.R_below (zz22 HO142) hb); replace BK135 := Aside0.mk (blk_below (g := gb135) (o := .cells #[.int .i64 a1_0, .int .i64 a1_1, .int .i64 a1_2] 34 (0, 0)) (zz5 BK135) hb); replace HB := Aside0.mk (below_step (zz6 GE135) hb); clear hb; have hcz15_0 : w14.cell? ⟨gb135, 0, none⟩ = some (.int .i64 a1_0) := (blk_cell BK135.out 0).trans rfl; have hcz15_1 : w14.cell? ⟨gb135, 1, none⟩ = some (.int .i64 a1_1) := (blk_cell BK135.out 1).trans rfl; have hcz15_2 : w14.cell? ⟨gb135, 2, none⟩ = some (.int .i64 a1_2) := (blk_cell BK135.out 2).trans rfl; have hfz15_0 := blk_frozen BK135.out 0; have hfz15_1 := blk_frozen BK135.out 1; have hfz15_2 := blk_frozen BK135.out 2) | (go_at_call 24; (with_reducible refine (spec_l1In.calls a1_2 0 99 t144 _ A12.out).mono ?_); rintro e w' ⟨rfl, ⟨nd, rfl⟩⟩))
    go_meet
    case rel => exact ⟨_, (!t144), zz8, H', ⟨zz9⟩, ⟨zz24 HO142⟩, ⟨zz5 BK135⟩, ⟨zz6 GE135⟩⟩
   ·replace c11 := Bool.eq_false_iff.mpr c11
    subst c11
    have H1 : (spec_WaysPut.j0 k l0 t140 true a1_0 a1_1 a1_2) = some (r1, r2) := by rw [if_neg (show ¬ (false = true) by decide)] at H; exact H
    clear H
    have H := H1
    clear H1
    have H' := Aside0.mk H
    clear H
    have hcz16_0 : w9.cell? ⟨gb135, 0, none⟩ = some (.int .i64 a1_0) := (blk_cell BK135.out 0).trans rfl
    have hcz16_1 : w9.cell? ⟨gb135, 1, none⟩ = some (.int .i64 a1_1) := (blk_cell BK135.out 1).trans rfl
    have hcz16_2 : w9.cell? ⟨gb135, 2, none⟩ = some (.int .i64 a1_2) := (blk_cell BK135.out 2).trans rfl
    have hfz16_0 := blk_frozen BK135.out 0
    have hfz16_1 := blk_frozen BK135.out 1
    have hfz16_2 := blk_frozen BK135.out 2
    go_wp2_with (first | (refine gc (some 17) Tryz.func47 #[.agg #[.int .i64 a1_0, .int .i64 a1_1]] ?_; (with_reducible refine (spec_BlockOk.calls k a1_0 a1_1 false _ A10.out).mono ?_); rintro e w17 ⟨rfl, hb⟩; refine ⟨_, rfl, ?_⟩; replace HO142 := Aside0.mk (Kd.R_below (zz22 HO142) hb); replace BK135 := Aside0.mk (blk_below (g := gb135) (o := .cells #[.int .i64 a1_0, .int .i64 a1_1, .int .i64 a1_2] 34 (0, 0)) (zz5 BK135) hb); replace HB := Aside0.mk (below_step (zz6 GE135) hb); clear hb))
    go_meet
    case rel => exact ⟨_, (true), zz8, H', ⟨zz9⟩, ⟨zz24 HO142⟩, ⟨zz5 BK135⟩, ⟨zz6 GE135⟩⟩
  case rest =>
   clear HC6
   try clear c1
   try clear c2
   try clear p2
   try clear c4
   try clear c5
   try clear c7
   try clear c11
   try clear hcz13_0
   try clear hcz13_1
   try clear hcz13_2
   try clear hcz15_0
   try clear hcz15_1
   try clear hcz15_2
   try clear hcz16_0
   try clear hcz16_1
   try clear hcz16_2
   try clear hfz13_0
   try clear hfz13_1
   try clear hfz13_2
   try clear hfz15_0
   try clear hfz15_1
   try clear hfz15_2
   try clear hfz16_0
   try clear hfz16_1
   try clear hfz16_2
   obtain ⟨kq, x24_5, rfl, HA, HJ5, HO_6, BK135, HB⟩ := hcut
   cases kq with
   | zero => exact absurd HA.out (by simp [spec_WaysPut.j0])
   | succ kj5 =>
    have H := HA.out
    clear HA
    simp only [spec_WaysPut.j0] at H
    by_cases c18 : x24_5 = true
    ·subst c18
     have H1 : (some (t140, false)) = some (r1, r2) := by rw [if_pos rfl] at H; exact H
     clear H
     have H := H1
     clear H1
     simp only [Option.some.injEq, Prod.mk.injEq] at H
     obtain ⟨rfl, rfl⟩ := H
     go_wp2
     go_ret2
     exact ⟨_, zz13, zz25 HO_6, zz6 GE135⟩
    ·replace c18 := Bool.eq_false_iff.mpr c18
     subst c18
     have H1 : ((spec_l3At.f kj5 l0 a1_0 a1_1).bind fun bt145 => (if bt145.2 = true then (if 0 ≤ bt145.1 then (if bt145.1 < (t140.length : Int) then (some ((t140.set (bt145.1 : Int).toNat (⟨(⟨a1_0, a1_1⟩ : S32), a1_2⟩ : S34)), true)) else (none)) else (none)) else (if (l0.length : Int) ≥ 40 then (some (t140, false)) else ((some (([] : List (S34)) : List (S34))).bind fun y148 => (if 0 ≤ bt145.1 then (if bt145.1 ≤ (l0.length : Int) then ((some (l0.take (bt145.1 : Int).toNat : List (S34))).bind fun y151 => (if y148.length + y151.length < 5864062014805 then ((some (y148 ++ y151 : List (S34))).bind fun y155 => ((some (([(⟨(⟨a1_0, a1_1⟩ : S32), a1_2⟩ : S34)] : List (S34)) : List (S34))).bind fun y158 => (if y155.length + y158.length < 5864062014805 then ((some (y155 ++ y158 : List (S34))).bind fun y161 => ((some (l0.drop (bt145.1 : Int).toNat : List (S34))).bind fun y164 => (if y161.length + y164.length < 5864062014805 then (some ((y161 ++ y164), true)) else (none)))) else (none)))) else (none))) else (none)) else (none)))))) = some (r1, r2) := by rw [if_neg (show ¬ (false = true) by decide)] at H; exact H
     clear H
     have H := H1
     clear H1
     replace H := bd H
     obtain ⟨⟨t145, t146⟩, A19, H⟩ := H
     replace H : (if t146 = true then (if 0 ≤ t145 then (if t145 < (t140.length : Int) then (some ((t140.set (t145 : Int).toNat (⟨(⟨a1_0, a1_1⟩ : S32), a1_2⟩ : S34)), true)) else (none)) else (none)) else (if (l0.length : Int) ≥ 40 then (some (t140, false)) else ((some (([] : List (S34)) : List (S34))).bind fun y148 => (if 0 ≤ t145 then (if t145 ≤ (l0.length : Int) then ((some (l0.take (t145 : Int).toNat : List (S34))).bind fun y151 => (if y148.length + y151.length < 5864062014805 then ((some (y148 ++ y151 : List (S34))).bind fun y155 => ((some (([(⟨(⟨a1_0, a1_1⟩ : S32), a1_2⟩ : S34)] : List (S34)) : List (S34))).bind fun y158 => (if y155.length + y158.length < 5864062014805 then ((some (y155 ++ y158 : List (S34))).bind fun y161 => ((some (l0.drop (t145 : Int).toNat : List (S34))).bind fun y164 => (if y161.length + y164.length < 5864062014805 then (some ((y161 ++ y164), true)) else (none)))) else (none)))) else (none))) else (none)) else (none))))) = some (r1, r2) := H
     by_cases c20 : t146 = true
     ·subst c20
      have H1 : (if 0 ≤ t145 then (if t145 < (t140.length : Int) then (some ((t140.set (t145 : Int).toNat (⟨(⟨a1_0, a1_1⟩ : S32), a1_2⟩ : S34)), true)) else (none)) else (none)) = some (r1, r2) := by rw [if_pos rfl] at H; exact H
      clear H
      have H := H1
      clear H1
      replace H := gd H
      obtain ⟨c21b0, H⟩ := H
      replace H := gd H
      obtain ⟨c22b0, H⟩ := H
      obtain ⟨y147, hy147⟩ : ∃ y_ : List (S34), y_ = (t140.set (t145 : Int).toNat (⟨(⟨a1_0, a1_1⟩ : S32), a1_2⟩ : S34)) := ⟨_, rfl⟩
      replace H : (some (y147, true)) = some (r1, r2) := by first | (rw [hy147]; with_reducible exact H) | (have H2_ := (Option.bind_some _ _).symm.trans H; rw [hy147]; with_reducible exact H2_) | (have H2_ := (Option.bind_some _ _).symm.trans H; with_reducible exact H2_) | with_reducible exact H | (rw [hy147]; exact H) | exact H
      have Ny147 := Aside0.mk hy147
      clear hy147
      simp only [Option.some.injEq, Prod.mk.injEq] at H
      obtain ⟨rfl, rfl⟩ := H
      have hcz24_0 : wc.cell? ⟨gb135, 0, none⟩ = some (.int .i64 a1_0) := (blk_cell BK135.out 0).trans rfl
      have hcz24_1 : wc.cell? ⟨gb135, 1, none⟩ = some (.int .i64 a1_1) := (blk_cell BK135.out 1).trans rfl
      have hcz24_2 : wc.cell? ⟨gb135, 2, none⟩ = some (.int .i64 a1_2) := (blk_cell BK135.out 2).trans rfl
      have hfz24_0 := blk_frozen BK135.out 0
      have hfz24_1 := blk_frozen BK135.out 1
      have hfz24_2 := blk_frozen BK135.out 2
      go_wp2_with (first | (refine gc (some 30) Tryz.func71 #[.slice A0 l0.length c0, .agg #[.int .i64 a1_0, .int .i64 a1_1]] ?_; (with_reducible refine (spec_l3At.calls kj5 _ _ l0 a1_0 a1_1 t145 true _ ?side1 ?side2 A19.out).mono ?_); (case side1 => exact zz20 HR0); (case side2 => exact HC0.out); rintro e w25 ⟨rfl, hb⟩; refine ⟨_, rfl, ?_⟩; replace HO_6 := Aside0.mk (Kd.R_below (zz22 HO_6) hb); replace BK135 := Aside0.mk (blk_below (g := gb135) (o := .cells #[.int .i64 a1_0, .int .i64 a1_1, .int .i64 a1_2] 34 (0, 0)) (zz5 BK135) hb); replace HB := Aside0.mk (below_step (zz6 GE135) hb); clear hb; have hcz26_0 : w25.cell? ⟨gb135, 0, none⟩ = some (.int .i64 a1_0) := (blk_cell BK135.out 0).trans rfl; have hcz26_1 : w25.cell? ⟨gb135, 1, none⟩ = some (.int .i64 a1_1) := (blk_cell BK135.out 1).trans rfl; have hcz26_2 : w25.cell? ⟨gb135, 2, none⟩ = some (.int .i64 a1_2) := (blk_cell BK135.out 2).trans rfl; have hfz26_0 := blk_frozen BK135.out 0; have hfz26_1 := blk_frozen BK135.out 1; have hfz26_2 := blk_frozen BK135.out 2; have p23 : 0 ≤ (t145 : Int) := of_decide_eq_true zz2; have q23 : (t145 : Int) < ((t140.length : Int) : Int) := of_decide_eq_true zz2; obtain ⟨go23, co23, eo23, gb23, gl23, cl23, HG23⟩ := Kd.R_form HO_6.out (by omega); (first | cases eo23 | (injection eo23 with ea_ en_ ec_; (first | subst ea_ | (injection ea_ with ea_; subst ea_)); subst ec_; clear en_)); have GB23 := Aside0.mk gb23; have GG23 := Aside0.mk HG23; clear gb23 gl23 HG23; obtain ⟨ce23, hcl23, hM23, hcc23, hfr23⟩ := Kd.R_elem HO_6.out z34 (t145 : Int) p23 q23; obtain rfl := k34_openM hM23; have hx23_0 : w25.cell? ⟨go23, (t145 : Int).toNat * 3, none⟩ = some (.int .i64 ((rd_T34 t140 t145).f0.f0)) := hcc23 0 _ rfl; have hx23_1 : w25.cell? ⟨go23, (t145 : Int).toNat * 3 + 1, none⟩ = some (.int .i64 ((rd_T34 t140 t145).f0.f1)) := hcc23 1 _ rfl; have hx23_2 : w25.cell? ⟨go23, (t145 : Int).toNat * 3 + 2, none⟩ = some (.int .i64 ((rd_T34 t140 t145).f1)) := hcc23 2 _ rfl; have hf23_0 : w25.frozen? ⟨go23, (t145 : Int).toNat * 3, none⟩ = false := hfr23 0; have hf23_1 : w25.frozen? ⟨go23, (t145 : Int).toNat * 3 + 1, none⟩ = false := hfr23 1; have hf23_2 : w25.frozen? ⟨go23, (t145 : Int).toNat * 3 + 2, none⟩ = false := hfr23 2; clear hcl23 hcc23 hfr23 hM23; replace p23 := eq_true p23; replace q23 := eq_true q23; have HX27 := Aside0.mk (show Kd.R k34 34 w25 w.heap.size (fun k_ => k_ ≠ gb135) (.slice (some ⟨go23, 0, none⟩) t140.length co23) t140 from (zz22 HO_6)); obtain ⟨ce27, hcl27, hM27, hcc27, hfr27⟩ := Kd.R_elem HX27.out z34 (t145 : Int) (of_decide_eq_true zz2) (by have h_ : (t145 : Int) < ((t140.length : Int) : Int) := of_decide_eq_true zz2; first | exact h_ | (have e_ := (Kd.R_reads' HO_6.out).1; omega) | simpa using h_); obtain rfl := k34_openM hM27; have HP27 := Kd.R_seg HX27.out (t145 : Int) (of_decide_eq_true zz2) (by have h_ : (t145 : Int) < ((t140.length : Int) : Int) := of_decide_eq_true zz2; first | exact h_ | (have e_ := (Kd.R_reads' HO_6.out).1; omega) | simpa using h_) (seg := [.int .i64 a1_0, .int .i64 a1_1, .int .i64 a1_2]) (j := 0) hcl27 hcc27 (show 3 ≤ 3 from by decide) (x' := (⟨(⟨a1_0, a1_1⟩ : S32), a1_2⟩ : S34)) (k34_mkM _ _ _ (⟨(⟨a1_0, a1_1⟩ : S32), a1_2⟩ : S34) ) (fun _ hk => hk); have hx27_0 := hcc27 0 _ rfl; (try simp only [show (k34).sz = 3 from rfl, Nat.mul_one, Nat.add_zero] at hx27_0); have hf27_0 := hfr27 0; (try simp only [show (k34).sz = 3 from rfl, Nat.mul_one, Nat.add_zero] at hf27_0); have hx27_1 := hcc27 1 _ rfl; (try simp only [show (k34).sz = 3 from rfl, Nat.mul_one, Nat.add_zero] at hx27_1); have hf27_1 := hfr27 1; (try simp only [show (k34).sz = 3 from rfl, Nat.mul_one, Nat.add_zero] at hf27_1); have hx27_2 := hcc27 2 _ rfl; (try simp only [show (k34).sz = 3 from rfl, Nat.mul_one, Nat.add_zero] at hx27_2); have hf27_2 := hfr27 2; (try simp only [show (k34).sz = 3 from rfl, Nat.mul_one, Nat.add_zero] at hf27_2); clear hcl27 hcc27 hfr27 hM27) | ((with_reducible refine gate_store (t := 34) (p := 37) rfl ?_); refine store_event (t := 34) (p := 37) (v := ?vo_w28) (w1 := (((w25.setCell ⟨go23, (t145 : Int).toNat * 3, none⟩ (.int .i64 a1_0)).setCell ⟨go23, (t145 : Int).toNat * 3 + 1, none⟩ (.int .i64 a1_1)).setCell ⟨go23, (t145 : Int).toNat * 3 + 2, none⟩ (.int .i64 a1_2))) ?hg ?ho ?hn ?hr ?_; (case ho => rfl); (case hg => rfl); (case hn => rfl); (case hr => exact zz26); intro w28 hw; have hg : w25.grownBy w28 (some go23) := (by rw [hw]; exact HP27.2); have hp_ : Kd.R k34 34 w28 w.heap.size (fun k_ => k_ ≠ gb135) (.slice (some ⟨go23, 0, none⟩) t140.length co23) y147 := (by rw [hw, Ny147.out]; exact HP27.1); clear HP27; replace BK135 := Aside0.mk (blk_grown (g := gb135) (o := .cells #[.int .i64 a1_0, .int .i64 a1_1, .int .i64 a1_2] 34 (0, 0)) (zz5 BK135) hg (Kd.R_away HO_6.out (fun _ hk => hk))); replace HO_6 := Aside0.mk hp_; replace HB := Aside0.mk (by rw [hw]; exact below_set (below_set (below_set (HB.out) GB23.out) GB23.out) GB23.out : Below w.heap.size w w28); clear hg hw hp_))
      go_ret2
      exact ⟨_, zz13, zz25 HO_6, zz6 GE135⟩
     ·replace c20 := Bool.eq_false_iff.mpr c20
      subst c20
      have H1 : (if (l0.length : Int) ≥ 40 then (some (t140, false)) else ((some (([] : List (S34)) : List (S34))).bind fun y148 => (if 0 ≤ t145 then (if t145 ≤ (l0.length : Int) then ((some (l0.take (t145 : Int).toNat : List (S34))).bind fun y151 => (if y148.length + y151.length < 5864062014805 then ((some (y148 ++ y151 : List (S34))).bind fun y155 => ((some (([(⟨(⟨a1_0, a1_1⟩ : S32), a1_2⟩ : S34)] : List (S34)) : List (S34))).bind fun y158 => (if y155.length + y158.length < 5864062014805 then ((some (y155 ++ y158 : List (S34))).bind fun y161 => ((some (l0.drop (t145 : Int).toNat : List (S34))).bind fun y164 => (if y161.length + y164.length < 5864062014805 then (some ((y161 ++ y164), true)) else (none)))) else (none)))) else (none))) else (none)) else (none)))) = some (r1, r2) := by rw [if_neg (show ¬ (false = true) by decide)] at H; exact H
      clear H
      have H := H1
      clear H1
      by_cases c29 : (l0.length : Int) ≥ 40
      ·rw [if_pos c29] at H
       have c29b0 : decide (40 ≤ (l0.length : Int)) = true := decide_eq_true c29
       have c29b1 : decide (40 ≤ l0.length) = true := decide_eq_true (by omega)
       clear c29
       simp only [Option.some.injEq, Prod.mk.injEq] at H
       obtain ⟨rfl, rfl⟩ := H
       have hcz30_0 : wc.cell? ⟨gb135, 0, none⟩ = some (.int .i64 a1_0) := (blk_cell BK135.out 0).trans rfl
       have hcz30_1 : wc.cell? ⟨gb135, 1, none⟩ = some (.int .i64 a1_1) := (blk_cell BK135.out 1).trans rfl
       have hcz30_2 : wc.cell? ⟨gb135, 2, none⟩ = some (.int .i64 a1_2) := (blk_cell BK135.out 2).trans rfl
       have hfz30_0 := blk_frozen BK135.out 0
       have hfz30_1 := blk_frozen BK135.out 1
       have hfz30_2 := blk_frozen BK135.out 2
       go_wp2_with (first | (refine gc (some 30) Tryz.func71 #[.slice A0 l0.length c0, .agg #[.int .i64 a1_0, .int .i64 a1_1]] ?_; (with_reducible refine (spec_l3At.calls kj5 _ _ l0 a1_0 a1_1 t145 false _ ?side1 ?side2 A19.out).mono ?_); (case side1 => exact zz20 HR0); (case side2 => exact HC0.out); rintro e w31 ⟨rfl, hb⟩; refine ⟨_, rfl, ?_⟩; replace HO_6 := Aside0.mk (Kd.R_below (zz22 HO_6) hb); replace BK135 := Aside0.mk (blk_below (g := gb135) (o := .cells #[.int .i64 a1_0, .int .i64 a1_1, .int .i64 a1_2] 34 (0, 0)) (zz5 BK135) hb); replace HB := Aside0.mk (below_step (zz6 GE135) hb); clear hb))
       go_ret2
       exact ⟨_, zz13, zz25 HO_6, zz6 GE135⟩
      ·rw [if_neg c29] at H
       have c29b0 : decide (40 ≤ (l0.length : Int)) = false := decide_eq_false c29
       have c29b1 : decide (40 ≤ l0.length) = false := decide_eq_false (by omega)
       clear c29
       obtain ⟨y148, hy148⟩ : ∃ y_ : List (S34), y_ = (([] : List (S34))) := ⟨_, rfl⟩
       replace H : (if 0 ≤ t145 then (if t145 ≤ (l0.length : Int) then ((some (l0.take (t145 : Int).toNat : List (S34))).bind fun y151 => (if y148.length + y151.length < 5864062014805 then ((some (y148 ++ y151 : List (S34))).bind fun y155 => ((some (([(⟨(⟨a1_0, a1_1⟩ : S32), a1_2⟩ : S34)] : List (S34)) : List (S34))).bind fun y158 => (if y155.length + y158.length < 5864062014805 then ((some (y155 ++ y158 : List (S34))).bind fun y161 => ((some (l0.drop (t145 : Int).toNat : List (S34))).bind fun y164 => (if y161.length + y164.length < 5864062014805 then (some ((y161 ++ y164), true)) else (none)))) else (none)))) else (none))) else (none)) else (none)) = some (r1, r2) := by first | (rw [hy148]; with_reducible exact H) | (have H2_ := (Option.bind_some _ _).symm.trans H; rw [hy148]; with_reducible exact H2_) | (have H2_ := (Option.bind_some _ _).symm.trans H; with_reducible exact H2_) | with_reducible exact H | (rw [hy148]; exact H) | exact H
       have Ny148 := Aside0.mk hy148
       clear hy148
       replace H := gp H
       obtain ⟨c32, H⟩ := H
       have c32b0 := eq_true c32
       have c32b1 : decide (0 ≤ t145) = true := decide_eq_true c32
       clear c32
       replace H := gp H
       obtain ⟨c33, H⟩ := H
       have c33b0 := eq_true c33
       have c33b1 : decide (t145 ≤ (l0.length : Int)) = true := decide_eq_true c33
       clear c33
       obtain ⟨y151, hy151⟩ : ∃ y_ : List (S34), y_ = (l0.take (t145 : Int).toNat) := ⟨_, rfl⟩
       replace H : (if y148.length + y151.length < 5864062014805 then ((some (y148 ++ y151 : List (S34))).bind fun y155 => ((some (([(⟨(⟨a1_0, a1_1⟩ : S32), a1_2⟩ : S34)] : List (S34)) : List (S34))).bind fun y158 => (if y155.length + y158.length < 5864062014805 then ((some (y155 ++ y158 : List (S34))).bind fun y161 => ((some (l0.drop (t145 : Int).toNat : List (S34))).bind fun y164 => (if y161.length + y164.length < 5864062014805 then (some ((y161 ++ y164), true)) else (none)))) else (none)))) else (none)) = some (r1, r2) := by first | (rw [hy151]; with_reducible exact H) | (have H2_ := (Option.bind_some _ _).symm.trans H; rw [hy151]; with_reducible exact H2_) | (have H2_ := (Option.bind_some _ _).symm.trans H; with_reducible exact H2_) | with_reducible exact H | (rw [hy151]; exact H) | exact H
       have Ny151 := Aside0.mk hy151
       clear hy151
       replace H := gp H
       obtain ⟨c34, H⟩ := H
       have LMc34 := Aside0.mk c34
       clear c34
       obtain ⟨y155, hy155⟩ : ∃ y_ : List (S34), y_ = (y148 ++ y151) := ⟨_, rfl⟩
       replace H : ((some (([(⟨(⟨a1_0, a1_1⟩ : S32), a1_2⟩ : S34)] : List (S34)) : List (S34))).bind fun y158 => (if y155.length + y158.length < 5864062014805 then ((some (y155 ++ y158 : List (S34))).bind fun y161 => ((some (l0.drop (t145 : Int).toNat : List (S34))).bind fun y164 => (if y161.length + y164.length < 5864062014805 then (some ((y161 ++ y164), true)) else (none)))) else (none))) = some (r1, r2) := by first | (rw [hy155]; with_reducible exact H) | (have H2_ := (Option.bind_some _ _).symm.trans H; rw [hy155]; with_reducible exact H2_) | (have H2_ := (Option.bind_some _ _).symm.trans H; with_reducible exact H2_) | with_reducible exact H | (rw [hy155]; exact H) | exact H
       have Ny155 := Aside0.mk hy155
       clear hy155
       obtain ⟨y158, hy158⟩ : ∃ y_ : List (S34), y_ = (([(⟨(⟨a1_0, a1_1⟩ : S32), a1_2⟩ : S34)] : List (S34))) := ⟨_, rfl⟩
       replace H : (if y155.length + y158.length < 5864062014805 then ((some (y155 ++ y158 : List (S34))).bind fun y161 => ((some (l0.drop (t145 : Int).toNat : List (S34))).bind fun y164 => (if y161.length + y164.length < 5864062014805 then (some ((y161 ++ y164), true)) else (none)))) else (none)) = some (r1, r2) := by first | (rw [hy158]; with_reducible exact H) | (have H2_ := (Option.bind_some _ _).symm.trans H; rw [hy158]; with_reducible exact H2_) | (have H2_ := (Option.bind_some _ _).symm.trans H; with_reducible exact H2_) | with_reducible exact H | (rw [hy158]; exact H) | exact H
       have Ny158 := Aside0.mk hy158
       clear hy158
       replace H := gp H
       obtain ⟨c35, H⟩ := H
       have LMc35 := Aside0.mk c35
       clear c35
       obtain ⟨y161, hy161⟩ : ∃ y_ : List (S34), y_ = (y155 ++ y158) := ⟨_, rfl⟩
       replace H : ((some (l0.drop (t145 : Int).toNat : List (S34))).bind fun y164 => (if y161.length + y164.length < 5864062014805 then (some ((y161 ++ y164), true)) else (none))) = some (r1, r2) := by first | (rw [hy161]; with_reducible exact H) | (have H2_ := (Option.bind_some _ _).symm.trans H; rw [hy161]; with_reducible exact H2_) | (have H2_ := (Option.bind_some _ _).symm.trans H; with_reducible exact H2_) | with_reducible exact H | (rw [hy161]; exact H) | exact H
       have Ny161 := Aside0.mk hy161
       clear hy161
       have c36b0 := eq_true (of_decide_eq_true zz2 : 0 ≤ t145)
       have c37b0 := eq_true (of_decide_eq_true zz2 : t145 ≤ (l0.length : Int))
       obtain ⟨y164, hy164⟩ : ∃ y_ : List (S34), y_ = (l0.drop (t145 : Int).toNat) := ⟨_, rfl⟩
       replace H : (if y161.length + y164.length < 5864062014805 then (some ((y161 ++ y164), true)) else (none)) = some (r1, r2) := by first | (rw [hy164]; with_reducible exact H) | (have H2_ := (Option.bind_some _ _).symm.trans H; rw [hy164]; with_reducible exact H2_) | (have H2_ := (Option.bind_some _ _).symm.trans H; with_reducible exact H2_) | with_reducible exact H | (rw [hy164]; exact H) | exact H
       have Ny164 := Aside0.mk hy164
       clear hy164
       replace H := gp H
       obtain ⟨c38, H⟩ := H
       have LMc38 := Aside0.mk c38
       clear c38
       obtain ⟨y168, hy168⟩ : ∃ y_ : List (S34), y_ = (y161 ++ y164) := ⟨_, rfl⟩
       replace H : (some (y168, true)) = some (r1, r2) := by first | (rw [hy168]; with_reducible exact H) | (have H2_ := (Option.bind_some _ _).symm.trans H; rw [hy168]; with_reducible exact H2_) | (have H2_ := (Option.bind_some _ _).symm.trans H; with_reducible exact H2_) | with_reducible exact H | (rw [hy168]; exact H) | exact H
       have Ny168 := Aside0.mk hy168
       clear hy168
       simp only [Option.some.injEq, Prod.mk.injEq] at H
       obtain ⟨rfl, rfl⟩ := H
       have hcz39_0 : wc.cell? ⟨gb135, 0, none⟩ = some (.int .i64 a1_0) := (blk_cell BK135.out 0).trans rfl
       have hcz39_1 : wc.cell? ⟨gb135, 1, none⟩ = some (.int .i64 a1_1) := (blk_cell BK135.out 1).trans rfl
       have hcz39_2 : wc.cell? ⟨gb135, 2, none⟩ = some (.int .i64 a1_2) := (blk_cell BK135.out 2).trans rfl
       have hfz39_0 := blk_frozen BK135.out 0
       have hfz39_1 := blk_frozen BK135.out 1
       have hfz39_2 := blk_frozen BK135.out 2
       try go_wp2_with (first | (refine gc (some 30) Tryz.func71 #[.slice A0 l0.length c0, .agg #[.int .i64 a1_0, .int .i64 a1_1]] ?_; (with_reducible refine (spec_l3At.calls kj5 _ _ l0 a1_0 a1_1 t145 false _ ?side1 ?side2 A19.out).mono ?_); (case side1 => exact zz20 HR0); (case side2 => exact HC0.out); rintro e w40 ⟨rfl, hb⟩; refine ⟨_, rfl, ?_⟩; replace HO_6 := Aside0.mk (Kd.R_below (zz22 HO_6) hb); replace BK135 := Aside0.mk (blk_below (g := gb135) (o := .cells #[.int .i64 a1_0, .int .i64 a1_1, .int .i64 a1_2] 34 (0, 0)) (zz5 BK135) hb); replace HB := Aside0.mk (below_step (zz6 GE135) hb); clear hb))
       replace HO_6 := Aside0.mk (Kd.R_drew HO_6.out)
       replace BK135 := Aside0.mk (blk_drew BK135.out)
       replace HB := Aside0.mk (below_drew1 HB.out)
       have q42 : (t145 : Int) ≤ ((l0.length : Int) : Int) := da
       obtain ⟨i042, hi042, _, hsz42, _⟩ := info_parts info34
       have hroom42 : l0.length ≤ c0 := HC0.out
       have hC42 : Kd.C k34 _ A0 l0.length l0 := HR0.out
       have hcut42 := cut_to (P := Tryz.prog) 23 34 .i64 Tryz.underlying23 hi042 A0 l0.length c0 t145 (of_decide_eq_true zz2) q42 hroom42
       have hr42 := Kd.C_take (m := (t145 : Int).toNat) hC42 (by omega)
       have hy42 : y151.length = (t145 : Int).toNat := (by rw [Ny151.out, List.length_take]; omega)
       rw [← Ny151.out] at hr42
       rw [← hy42] at hcut42
       have HR154 := Aside0.mk hr42
       have HC154 := Aside0.mk (show y151.length ≤ c0 from by omega)
       clear hr42 hC42 hroom42 hi042 hsz42
       have KY42 := Aside0.mk hy42
       clear hy42
       replace q42 := eq_true q42
       have q43 : (t145 : Int) ≤ ((l0.length : Int) : Int) := da
       obtain ⟨i043, hi043, _, hsz43, _⟩ := info_parts info34
       have hroom43 : l0.length ≤ c0 := HC0.out
       have hC43 : Kd.C k34 _ A0 l0.length l0 := HR0.out
       have q043 : (0 : Int) ≤ (t145 : Int) := da
       have hcut43 := cut_from (P := Tryz.prog) 23 34 .i64 Tryz.underlying23 hi043 3 hsz43 A0 l0.length c0 t145 q043 q43
       have hr43 := Kd.C_drop (m := (t145 : Int).toNat) (c := c0) hC43 (by omega) hroom43
       obtain ⟨A43, hA43⟩ : ∃ A1, A1 = (if c0 = (t145 : Int).toNat then A0 else (A0 : Option Addr).map (·.add ((t145 : Int).toNat * 3))) := ⟨_, rfl⟩
       obtain ⟨c43, hc43⟩ : ∃ c1, c1 = c0 - (t145 : Int).toNat := ⟨_, rfl⟩
       have hy43 : y164.length = l0.length - (t145 : Int).toNat := (by rw [Ny164.out, List.length_drop] <;> omega)
       rw [show (l0).drop (t145 : Int).toNat = y164 from Ny164.out.symm] at hr43
       replace hr43 : Kd.C k34 _ A43 y164.length y164 := (by rw [hA43]; exact hr43)
       rw [← hy43, ← hA43, ← hc43] at hcut43
       have HR167 := Aside0.mk hr43
       have HC167 := Aside0.mk (show y164.length ≤ c43 from by rw [hy43, hc43]; exact Nat.sub_le_sub_right hroom43 _)
       clear hr43 hC43 hroom43 hi043 hsz43 hc43
       have KY43 := Aside0.mk hy43
       have KA43 := Aside0.mk hA43
       clear hy43 hA43
       replace q43 := eq_true q43
       refine start_ (n := 14) (S := fun w' => w'.cell? ⟨gb135, 0, none⟩ = some (.int .i64 a1_0) ∧ w'.cell? ⟨gb135, 1, none⟩ = some (.int .i64 a1_1) ∧ w'.cell? ⟨gb135, 2, none⟩ = some (.int .i64 a1_2)) (ds := []) (bm 14 0) (by kernel_rfl) rfl rfl ⟨(blk_cell BK135.out 0).trans rfl, (blk_cell BK135.out 1).trans rfl, (blk_cell BK135.out 2).trans rfl⟩ (fun hHeld => ?_); refine with_tabW spec_WaysPut.tab12 spec_WaysPut.bits12 (fun HT_ HW_ => ?_)
       generalize w40.drew = w41 at HO_6 BK135 HB HR154 HR167 hHeld ⊢
       refine pu 1 44 (bm 14 2) ?_
       refine pu 2 45 (bm 14 6) ?_
       refine pu 3 46 (bm 14 14) ?_
       refine pu 8 51 (bm 14 270) ?_
       refine pu 9 52 (bm 14 782) ?_
       refine pu 10 53 (bm 14 1806) ?_
       refine tk 5 48 (bm 14 1838) ?_
       refine join_ (σ := Value × Value × Value) 4 (bm 14 1919) (fun s_ => [(43, s_.1), (47, s_.2.1), (49, s_.2.2)]) (fun s_ w' => (w'.cell? ⟨gb135, 0, none⟩ = some (.int .i64 a1_0) ∧ w'.cell? ⟨gb135, 1, none⟩ = some (.int .i64 a1_1) ∧ w'.cell? ⟨gb135, 2, none⟩ = some (.int .i64 a1_2)) ∧ (Kd.R k34 34 w' w.heap.size (fun k_ => some k_ ≠ (s_.2.2 : Value).ownBlock ∧ some k_ ≠ (v141 : Value).ownBlock ∧ k_ ≠ gb135) s_.2.1 y155) ∧ (Kd.R k34 34 w' w.heap.size (fun k_ => some k_ ≠ (s_.2.1 : Value).ownBlock ∧ some k_ ≠ (v141 : Value).ownBlock ∧ k_ ≠ gb135) s_.2.2 y158) ∧ (Kd.R k34 34 w' w.heap.size (fun k_ => some k_ ≠ (s_.2.1 : Value).ownBlock ∧ some k_ ≠ (s_.2.2 : Value).ownBlock ∧ k_ ≠ gb135) v141 t140) ∧ (w'.heap[gb135]? = some (.cells #[.int .i64 a1_0, .int .i64 a1_1, .int .i64 a1_2] 34 (0, 0))) ∧ (Below w.heap.size w w')) ?_ ?_
       rotate_left
       ·intro hCont
        refine two_ (i := 0) (j := 6) (Ni := some 43) (Nj := some 49) (bm 14 1839) (bm 14 1902) rfl rfl rfl rfl (two_of HT_.out (by kernel_rfl)) (by decide) (by decide) (fun K hK => ?_) (fun K hK => ?_)
        ·skip
         refine rls k34 34 43 ([] : List (S34)) [] ?hp ?_; (case hp => exact zz19)
         intro v149 w44 ho45 hb hg_ hnew_
         clear hg_ hnew_
         (first | rw [← Ny148.out] at ho45 | (simp only [Int.reduceToNat] at ho45; rw [← Ny148.out] at ho45))
         have HO150 := Aside0.mk (Kd.R_lower (Kd.R_newB (Kd.R_new' ho45 (Kd.R_lt (zz22 HO_6))) (g := gb135) (o := .cells #[.int .i64 a1_0, .int .i64 a1_1, .int .i64 a1_2] 34 (0, 0)) (zz5 BK135)) (below_size (zz6 GE135)))
         replace HO_6 := Aside0.mk (Kd.R_elder' (zz22 HO_6) (Kd.R_base ho45) hb)
         replace BK135 := Aside0.mk (blk_below (g := gb135) (o := .cells #[.int .i64 a1_0, .int .i64 a1_1, .int .i64 a1_2] 34 (0, 0)) (zz5 BK135) hb)
         replace HB := Aside0.mk (below_step (zz6 GE135) hb)
         clear hb ho45
         refine hK.out _ _ ⟨(blk_cell BK135.out 0).trans rfl, (blk_cell BK135.out 1).trans rfl, (blk_cell BK135.out 2).trans rfl⟩ (fun hHeld => ?_)
         clear hK K
         refine nm 43 ?_
         refine two_ (i := 4) (j := 6) (Ni := some 47) (Nj := some 49) (bm 14 1855) (bm 14 1903) rfl rfl rfl rfl (two_of HT_.out (by kernel_rfl)) (by decide) (by decide) (fun K hK => ?_) (fun K hK => ?_)
         ·skip
          refine Kd.R_append_rows_step k34 (w0 := w) w.heap.size (by rfl) (.tmp 43) (.tmp 46) 23 34 (.agg #[(.int .i64 0), (.int .i64 0), (.int .i64 0)]) 24 rfl Tryz.underlying23 info34 rfl (by decide) (by omega) v149 y148 y151 _ _ _ (fun k_ => some k_ ≠ (v141 : Value).ownBlock ∧ k_ ≠ gb135) (fun _ => False) rfl rfl ?aO ?aR (fun _ _ h => h) (fun _ h => h.elim) ?aF ?aB ?aS ?aL ?_
          (case aR => exact zz20 HR154)
          (case aB => exact zz6 GE135)
          (case aF => exact (fun k_ hk => ⟨Kd.fresh' (Kd.R_lt (zz22 HO_6)) k_ hk, Kd.freshB (g := gb135) (o := .cells #[.int .i64 a1_0, .int .i64 a1_1, .int .i64 a1_2] 34 (0, 0)) (zz5 BK135) k_ hk⟩))
          (case aO => (with_reducible repeat (first | apply Kd.R_alloc | apply Kd.R_drewN | apply Kd.R_drew)); exact Kd.R_mono HO150.out (fun _ hk => ⟨hk.1.2, hk.2⟩))
          (case aS => exact zz27 GE135)
          (case aL => exact zz15 LMc34)
          intro v156 w46 ho hb hg hat
          rw [← Ny155.out] at ho
          replace HO_6 := Aside0.mk (Kd.R_after (ok := (fun k_ => k_ ≠ gb135)) (zz22 HO_6) hg hat)
          replace BK135 := Aside0.mk (blk_grown (g := gb135) (o := .cells #[.int .i64 a1_0, .int .i64 a1_1, .int .i64 a1_2] 34 (0, 0)) (zz5 BK135) hg (Kd.R_away HO150.out (fun _ hk => hk.2)))
          replace HB := Aside0.mk hb
          have HO157 := Aside0.mk ho
          clear HO150 ho hb hg hat
          refine hK.out _ _ ⟨(blk_cell BK135.out 0).trans rfl, (blk_cell BK135.out 1).trans rfl, (blk_cell BK135.out 2).trans rfl⟩ (fun hHeld => ?_)
          clear hK K
          refine nm 47 ?_
          refine on 6 (some 49) (bm 14 1919) (fun K hK => ?_)
          refine rls k34 34 49 ([(⟨(⟨a1_0, a1_1⟩ : S32), a1_2⟩ : S34)] : List (S34)) [.int .i64 a1_0, .int .i64 a1_1, .int .i64 a1_2] ?hp ?_; (case hp => exact (Reps.c3 (show Kd.M k34 _ _ _ (⟨(⟨a1_0, a1_1⟩ : S32), a1_2⟩ : S34) [.int .i64 a1_0, .int .i64 a1_1, .int .i64 a1_2] from (k34_mkM _ _ _ (⟨(⟨a1_0, a1_1⟩ : S32), a1_2⟩ : S34) )) (Reps.none _ _)))
          intro v159 w47 ho48 hb hg_ hnew_
          clear hg_ hnew_
          (first | rw [← Ny158.out] at ho48 | (simp only [Int.reduceToNat] at ho48; rw [← Ny158.out] at ho48))
          have HO160 := Aside0.mk (Kd.R_lower (Kd.R_newB (Kd.R_new' (Kd.R_new' ho48 (Kd.R_lt (zz22 HO_6))) (Kd.R_lt (zz22 HO157))) (g := gb135) (o := .cells #[.int .i64 a1_0, .int .i64 a1_1, .int .i64 a1_2] 34 (0, 0)) (zz5 BK135)) (below_size (zz6 GE135)))
          replace HO_6 := Aside0.mk (Kd.R_elder' (zz22 HO_6) (Kd.R_base ho48) hb)
          replace HO157 := Aside0.mk (Kd.R_elder' (zz22 HO157) (Kd.R_base ho48) hb)
          replace BK135 := Aside0.mk (blk_below (g := gb135) (o := .cells #[.int .i64 a1_0, .int .i64 a1_1, .int .i64 a1_2] 34 (0, 0)) (zz5 BK135) hb)
          replace HB := Aside0.mk (below_step (zz6 GE135) hb)
          clear hb ho48
          refine hK.out _ _ ⟨(blk_cell BK135.out 0).trans rfl, (blk_cell BK135.out 1).trans rfl, (blk_cell BK135.out 2).trans rfl⟩ (fun hHeld => ?_)
          clear hK K
          refine nm 49 ?_
          exact norm_ zz28 (hCont (v149, v156, v159) _ ⟨hHeld, (zz29 HO157), (by (with_reducible repeat (first | apply Kd.R_alloc | apply Kd.R_drewN | apply Kd.R_drew)); exact Kd.R_mono HO160.out (fun _ hk => ⟨hk.1.2, ⟨hk.1.1.2, hk.2⟩⟩)), (by (with_reducible repeat (first | apply Kd.R_alloc | apply Kd.R_drewN | apply Kd.R_drew)); exact Kd.R_mono HO_6.out (fun _ hk => ⟨hk.1.2, ⟨hk.2, hk.1.1⟩⟩)), (zz5 BK135), (zz6 GE135)⟩)
         ·skip
          refine rls k34 34 49 ([(⟨(⟨a1_0, a1_1⟩ : S32), a1_2⟩ : S34)] : List (S34)) [.int .i64 a1_0, .int .i64 a1_1, .int .i64 a1_2] ?hp ?_; (case hp => exact (Reps.c3 (show Kd.M k34 _ _ _ (⟨(⟨a1_0, a1_1⟩ : S32), a1_2⟩ : S34) [.int .i64 a1_0, .int .i64 a1_1, .int .i64 a1_2] from (k34_mkM _ _ _ (⟨(⟨a1_0, a1_1⟩ : S32), a1_2⟩ : S34) )) (Reps.none _ _)))
          intro v159 w46 ho47 hb hg_ hnew_
          clear hg_ hnew_
          (first | rw [← Ny158.out] at ho47 | (simp only [Int.reduceToNat] at ho47; rw [← Ny158.out] at ho47))
          have HO160 := Aside0.mk (Kd.R_lower (Kd.R_newB (Kd.R_new' (Kd.R_new' ho47 (Kd.R_lt (zz22 HO_6))) (Kd.R_lt (zz22 HO150))) (g := gb135) (o := .cells #[.int .i64 a1_0, .int .i64 a1_1, .int .i64 a1_2] 34 (0, 0)) (zz5 BK135)) (below_size (zz6 GE135)))
          replace HO_6 := Aside0.mk (Kd.R_elder' (zz22 HO_6) (Kd.R_base ho47) hb)
          replace HO150 := Aside0.mk (Kd.R_elder' (zz22 HO150) (Kd.R_base ho47) hb)
          replace BK135 := Aside0.mk (blk_below (g := gb135) (o := .cells #[.int .i64 a1_0, .int .i64 a1_1, .int .i64 a1_2] 34 (0, 0)) (zz5 BK135) hb)
          replace HB := Aside0.mk (below_step (zz6 GE135) hb)
          clear hb ho47
          refine hK.out _ _ ⟨(blk_cell BK135.out 0).trans rfl, (blk_cell BK135.out 1).trans rfl, (blk_cell BK135.out 2).trans rfl⟩ (fun hHeld => ?_)
          clear hK K
          refine nm 49 ?_
          refine on 4 (some 47) (bm 14 1919) (fun K hK => ?_)
          refine Kd.R_append_rows_step k34 (w0 := w) w.heap.size (by rfl) (.tmp 43) (.tmp 46) 23 34 (.agg #[(.int .i64 0), (.int .i64 0), (.int .i64 0)]) 24 rfl Tryz.underlying23 info34 rfl (by decide) (by omega) v149 y148 y151 _ _ _ (fun k_ => some k_ ≠ (v141 : Value).ownBlock ∧ some k_ ≠ (v159 : Value).ownBlock ∧ k_ ≠ gb135) (fun _ => False) rfl rfl ?aO ?aR (fun _ _ h => h) (fun _ h => h.elim) ?aF ?aB ?aS ?aL ?_
          (case aR => exact zz20 HR154)
          (case aB => exact zz6 GE135)
          (case aF => exact (fun k_ hk => ⟨Kd.fresh' (Kd.R_lt (zz22 HO_6)) k_ hk, Kd.fresh' (Kd.R_lt (zz22 HO160)) k_ hk, Kd.freshB (g := gb135) (o := .cells #[.int .i64 a1_0, .int .i64 a1_1, .int .i64 a1_2] 34 (0, 0)) (zz5 BK135) k_ hk⟩))
          (case aO => (with_reducible repeat (first | apply Kd.R_alloc | apply Kd.R_drewN | apply Kd.R_drew)); exact Kd.R_mono HO150.out (fun _ hk => ⟨hk.1.1.2, ⟨hk.2, hk.1.2⟩⟩))
          (case aS => exact zz27 GE135)
          (case aL => exact zz15 LMc34)
          intro v156 w48 ho hb hg hat
          rw [← Ny155.out] at ho
          replace HO_6 := Aside0.mk (Kd.R_after (ok := (fun k_ => some k_ ≠ (v159 : Value).ownBlock ∧ k_ ≠ gb135)) (by (with_reducible repeat (first | apply Kd.R_alloc | apply Kd.R_drewN | apply Kd.R_drew)); exact Kd.R_mono HO_6.out (fun _ hk => ⟨⟨hk.2, hk.1.1⟩, hk.1.2⟩)) hg hat)
          replace BK135 := Aside0.mk (blk_grown (g := gb135) (o := .cells #[.int .i64 a1_0, .int .i64 a1_1, .int .i64 a1_2] 34 (0, 0)) (zz5 BK135) hg (Kd.R_away HO150.out (fun _ hk => hk.1.2)))
          replace HO160 := Aside0.mk (Kd.R_after (ok := (fun k_ => some k_ ≠ (v141 : Value).ownBlock ∧ k_ ≠ gb135)) (by (with_reducible repeat (first | apply Kd.R_alloc | apply Kd.R_drewN | apply Kd.R_drew)); exact Kd.R_mono HO160.out (fun _ hk => ⟨⟨hk.1.1.2, hk.2⟩, hk.1.2⟩)) hg hat)
          replace HB := Aside0.mk hb
          have HO157 := Aside0.mk ho
          clear HO150 ho hb hg hat
          refine hK.out _ _ ⟨(blk_cell BK135.out 0).trans rfl, (blk_cell BK135.out 1).trans rfl, (blk_cell BK135.out 2).trans rfl⟩ (fun hHeld => ?_)
          clear hK K
          refine nm 47 ?_
          exact norm_ zz28 (hCont (v149, v156, v159) _ ⟨hHeld, (zz30 HO157), (zz29 HO160), (zz29 HO_6), (zz5 BK135), (zz6 GE135)⟩)
        ·skip
         refine rls k34 34 49 ([(⟨(⟨a1_0, a1_1⟩ : S32), a1_2⟩ : S34)] : List (S34)) [.int .i64 a1_0, .int .i64 a1_1, .int .i64 a1_2] ?hp ?_; (case hp => exact (Reps.c3 (show Kd.M k34 _ _ _ (⟨(⟨a1_0, a1_1⟩ : S32), a1_2⟩ : S34) [.int .i64 a1_0, .int .i64 a1_1, .int .i64 a1_2] from (k34_mkM _ _ _ (⟨(⟨a1_0, a1_1⟩ : S32), a1_2⟩ : S34) )) (Reps.none _ _)))
         intro v159 w44 ho45 hb hg_ hnew_
         clear hg_ hnew_
         (first | rw [← Ny158.out] at ho45 | (simp only [Int.reduceToNat] at ho45; rw [← Ny158.out] at ho45))
         have HO160 := Aside0.mk (Kd.R_lower (Kd.R_newB (Kd.R_new' ho45 (Kd.R_lt (zz22 HO_6))) (g := gb135) (o := .cells #[.int .i64 a1_0, .int .i64 a1_1, .int .i64 a1_2] 34 (0, 0)) (zz5 BK135)) (below_size (zz6 GE135)))
         replace HO_6 := Aside0.mk (Kd.R_elder' (zz22 HO_6) (Kd.R_base ho45) hb)
         replace BK135 := Aside0.mk (blk_below (g := gb135) (o := .cells #[.int .i64 a1_0, .int .i64 a1_1, .int .i64 a1_2] 34 (0, 0)) (zz5 BK135) hb)
         replace HB := Aside0.mk (below_step (zz6 GE135) hb)
         clear hb ho45
         refine hK.out _ _ ⟨(blk_cell BK135.out 0).trans rfl, (blk_cell BK135.out 1).trans rfl, (blk_cell BK135.out 2).trans rfl⟩ (fun hHeld => ?_)
         clear hK K
         refine nm 49 ?_
         refine on 0 (some 43) (bm 14 1903) (fun K hK => ?_)
         refine rls k34 34 43 ([] : List (S34)) [] ?hp ?_; (case hp => exact zz19)
         intro v149 w46 ho47 hb hg_ hnew_
         clear hg_ hnew_
         (first | rw [← Ny148.out] at ho47 | (simp only [Int.reduceToNat] at ho47; rw [← Ny148.out] at ho47))
         have HO150 := Aside0.mk (Kd.R_lower (Kd.R_newB (Kd.R_new' (Kd.R_new' ho47 (Kd.R_lt (zz22 HO_6))) (Kd.R_lt (zz22 HO160))) (g := gb135) (o := .cells #[.int .i64 a1_0, .int .i64 a1_1, .int .i64 a1_2] 34 (0, 0)) (zz5 BK135)) (below_size (zz6 GE135)))
         replace HO_6 := Aside0.mk (Kd.R_elder' (zz22 HO_6) (Kd.R_base ho47) hb)
         replace HO160 := Aside0.mk (Kd.R_elder' (zz22 HO160) (Kd.R_base ho47) hb)
         replace BK135 := Aside0.mk (blk_below (g := gb135) (o := .cells #[.int .i64 a1_0, .int .i64 a1_1, .int .i64 a1_2] 34 (0, 0)) (zz5 BK135) hb)
         replace HB := Aside0.mk (below_step (zz6 GE135) hb)
         clear hb ho47
         refine hK.out _ _ ⟨(blk_cell BK135.out 0).trans rfl, (blk_cell BK135.out 1).trans rfl, (blk_cell BK135.out 2).trans rfl⟩ (fun hHeld => ?_)
         clear hK K
         refine nm 43 ?_
         refine on 4 (some 47) (bm 14 1919) (fun K hK => ?_)
         refine Kd.R_append_rows_step k34 (w0 := w) w.heap.size (by rfl) (.tmp 43) (.tmp 46) 23 34 (.agg #[(.int .i64 0), (.int .i64 0), (.int .i64 0)]) 24 rfl Tryz.underlying23 info34 rfl (by decide) (by omega) v149 y148 y151 _ _ _ (fun k_ => some k_ ≠ (v141 : Value).ownBlock ∧ some k_ ≠ (v159 : Value).ownBlock ∧ k_ ≠ gb135) (fun _ => False) rfl rfl ?aO ?aR (fun _ _ h => h) (fun _ h => h.elim) ?aF ?aB ?aS ?aL ?_
         (case aR => exact zz20 HR154)
         (case aB => exact zz6 GE135)
         (case aF => exact (fun k_ hk => ⟨Kd.fresh' (Kd.R_lt (zz22 HO_6)) k_ hk, Kd.fresh' (Kd.R_lt (zz22 HO160)) k_ hk, Kd.freshB (g := gb135) (o := .cells #[.int .i64 a1_0, .int .i64 a1_1, .int .i64 a1_2] 34 (0, 0)) (zz5 BK135) k_ hk⟩))
         (case aO => (with_reducible repeat (first | apply Kd.R_alloc | apply Kd.R_drewN | apply Kd.R_drew)); exact Kd.R_mono HO150.out (fun _ hk => ⟨hk.1.1.2, ⟨hk.1.2, hk.2⟩⟩))
         (case aS => exact zz27 GE135)
         (case aL => exact zz15 LMc34)
         intro v156 w48 ho hb hg hat
         rw [← Ny155.out] at ho
         replace HO_6 := Aside0.mk (Kd.R_after (ok := (fun k_ => some k_ ≠ (v159 : Value).ownBlock ∧ k_ ≠ gb135)) (by (with_reducible repeat (first | apply Kd.R_alloc | apply Kd.R_drewN | apply Kd.R_drew)); exact Kd.R_mono HO_6.out (fun _ hk => ⟨⟨hk.1.2, hk.1.1⟩, hk.2⟩)) hg hat)
         replace BK135 := Aside0.mk (blk_grown (g := gb135) (o := .cells #[.int .i64 a1_0, .int .i64 a1_1, .int .i64 a1_2] 34 (0, 0)) (zz5 BK135) hg (Kd.R_away HO150.out (fun _ hk => hk.2)))
         replace HO160 := Aside0.mk (Kd.R_after (ok := (fun k_ => some k_ ≠ (v141 : Value).ownBlock ∧ k_ ≠ gb135)) (by (with_reducible repeat (first | apply Kd.R_alloc | apply Kd.R_drewN | apply Kd.R_drew)); exact Kd.R_mono HO160.out (fun _ hk => ⟨⟨hk.1.1.2, hk.1.2⟩, hk.2⟩)) hg hat)
         replace HB := Aside0.mk hb
         have HO157 := Aside0.mk ho
         clear HO150 ho hb hg hat
         refine hK.out _ _ ⟨(blk_cell BK135.out 0).trans rfl, (blk_cell BK135.out 1).trans rfl, (blk_cell BK135.out 2).trans rfl⟩ (fun hHeld => ?_)
         clear hK K
         refine nm 47 ?_
         exact norm_ zz28 (hCont (v149, v156, v159) _ ⟨hHeld, (zz30 HO157), (zz29 HO160), (zz29 HO_6), (zz5 BK135), (zz6 GE135)⟩)
       rintro ⟨v149, v156, v159⟩ w49 ⟨hS_, h0_, h1_, h2_, h3_, h4_⟩
       have HO157 : Aside0 (Kd.R k34 34 w49 w.heap.size (fun k_ => some k_ ≠ (v159 : Value).ownBlock ∧ some k_ ≠ (v141 : Value).ownBlock ∧ k_ ≠ gb135) v156 y155) := ⟨h0_⟩
       have HO160 : Aside0 (Kd.R k34 34 w49 w.heap.size (fun k_ => some k_ ≠ (v156 : Value).ownBlock ∧ some k_ ≠ (v141 : Value).ownBlock ∧ k_ ≠ gb135) v159 y158) := ⟨h1_⟩
       replace HO_6 : Aside0 (Kd.R k34 34 w49 w.heap.size (fun k_ => some k_ ≠ (v156 : Value).ownBlock ∧ some k_ ≠ (v159 : Value).ownBlock ∧ k_ ≠ gb135) v141 t140) := ⟨h2_⟩
       replace BK135 : Aside0 (w49.heap[gb135]? = some (.cells #[.int .i64 a1_0, .int .i64 a1_1, .int .i64 a1_2] 34 (0, 0))) := ⟨h3_⟩
       replace HB : Aside0 (Below w.heap.size w w49) := ⟨h4_⟩
       clear h0_ h1_ h2_ h3_ h4_
       have hHeld : w49.cell? ⟨gb135, 0, none⟩ = some (.int .i64 a1_0) ∧ w49.cell? ⟨gb135, 1, none⟩ = some (.int .i64 a1_1) ∧ w49.cell? ⟨gb135, 2, none⟩ = some (.int .i64 a1_2) := hS_
       obtain ⟨Ao51, co51, eo51⟩ := Kd.R_slice HO160.out
       (first | subst eo51 | (injection eo51 with f1_ f2_ f3_; have f4_ := f1_.symm; have f5_ := f3_.symm; clear f1_ f2_ f3_; subst f4_; subst f5_))
       refine norm_ (a' := ?_) ?_ ?_
       rotate_left
       ·simp only [putAll, Act.put, List.setIfInBounds_toArray, List.set_cons_zero, List.set_cons_succ]
        rfl
       refine on 7 (some 50) (bm 14 2047) (fun K hK => ?_)
       refine Kd.R_append_rows_step k34 (w0 := w) w.heap.size (by rfl) (.tmp 47) (.tmp 49) 23 34 (.agg #[(.int .i64 0), (.int .i64 0), (.int .i64 0)]) 24 rfl Tryz.underlying23 info34 rfl (by decide) (by omega) v156 y155 y158 _ _ _ (fun k_ => some k_ ≠ (v141 : Value).ownBlock ∧ some k_ ≠ (.slice Ao51 y158.length co51 : Value).ownBlock ∧ k_ ≠ gb135) (fun _ => False) rfl rfl ?aO ?aR (fun _ _ h => h) (fun _ h => h.elim) ?aF ?aB ?aS ?aL ?_
       (case aR => exact zz31 HO160)
       (case aB => exact zz6 GE135)
       (case aF => exact (fun k_ hk => ⟨Kd.fresh' (Kd.R_lt (zz22 HO_6)) k_ hk, Kd.fresh' (Kd.R_lt (zz22 HO160)) k_ hk, Kd.freshB (g := gb135) (o := .cells #[.int .i64 a1_0, .int .i64 a1_1, .int .i64 a1_2] 34 (0, 0)) (zz5 BK135) k_ hk⟩))
       (case aO => exact zz30 HO157)
       (case aS => exact zz27 GE135)
       (case aL => exact zz15 LMc35)
       intro v162 w50 ho hb hg hat
       rw [← Ny161.out] at ho
       replace HO_6 := Aside0.mk (Kd.R_after (ok := (fun k_ => some k_ ≠ (.slice Ao51 y158.length co51 : Value).ownBlock ∧ k_ ≠ gb135)) (zz32 HO_6) hg hat)
       replace BK135 := Aside0.mk (blk_grown (g := gb135) (o := .cells #[.int .i64 a1_0, .int .i64 a1_1, .int .i64 a1_2] 34 (0, 0)) (zz5 BK135) hg (Kd.R_away HO157.out (fun _ hk => hk.2.2)))
       replace HO160 := Aside0.mk (Kd.R_after (ok := (fun k_ => some k_ ≠ (v141 : Value).ownBlock ∧ k_ ≠ gb135)) (zz32 HO160) hg hat)
       replace HB := Aside0.mk hb
       have HO163 := Aside0.mk ho
       clear HO157 ho hb hg hat
       refine hK.out _ _ ⟨(blk_cell BK135.out 0).trans rfl, (blk_cell BK135.out 1).trans rfl, (blk_cell BK135.out 2).trans rfl⟩ (fun hHeld => ?_)
       clear hK K
       refine nm 50 ?_
       refine on 11 (some 54) (bm 14 4095) (fun K hK => ?_)
       refine Kd.R_append_rows_step k34 (w0 := w) w.heap.size (by rfl) (.tmp 50) (.tmp 53) 23 34 (.agg #[(.int .i64 0), (.int .i64 0), (.int .i64 0)]) 24 rfl Tryz.underlying23 info34 rfl (by decide) (by omega) v162 y161 y164 _ _ _ (fun k_ => some k_ ≠ (v141 : Value).ownBlock ∧ some k_ ≠ (.slice Ao51 y158.length co51 : Value).ownBlock ∧ k_ ≠ gb135) (fun _ => False) rfl rfl ?aO ?aR (fun _ _ h => h) (fun _ h => h.elim) ?aF ?aB ?aS ?aL ?_
       (case aR => exact zz20 HR167)
       (case aB => exact zz6 GE135)
       (case aF => exact (fun k_ hk => ⟨Kd.fresh' (Kd.R_lt (zz22 HO_6)) k_ hk, Kd.fresh' (Kd.R_lt (zz22 HO160)) k_ hk, Kd.freshB (g := gb135) (o := .cells #[.int .i64 a1_0, .int .i64 a1_1, .int .i64 a1_2] 34 (0, 0)) (zz5 BK135) k_ hk⟩))
       (case aO => exact zz22 HO163)
       (case aS => exact zz27 GE135)
       (case aL => exact zz15 LMc38)
       intro v169 w52 ho hb hg hat
       rw [← Ny168.out] at ho
       replace HO_6 := Aside0.mk (Kd.R_after (ok := (fun k_ => some k_ ≠ (.slice Ao51 y158.length co51 : Value).ownBlock ∧ k_ ≠ gb135)) (zz22 HO_6) hg hat)
       replace BK135 := Aside0.mk (blk_grown (g := gb135) (o := .cells #[.int .i64 a1_0, .int .i64 a1_1, .int .i64 a1_2] 34 (0, 0)) (zz5 BK135) hg (Kd.R_away HO163.out (fun _ hk => hk.2.2)))
       replace HO160 := Aside0.mk (Kd.R_after (ok := (fun k_ => some k_ ≠ (v141 : Value).ownBlock ∧ k_ ≠ gb135)) (zz22 HO160) hg hat)
       replace HB := Aside0.mk hb
       have HO170 := Aside0.mk ho
       clear HO163 ho hb hg hat
       refine hK.out _ _ ⟨(blk_cell BK135.out 0).trans rfl, (blk_cell BK135.out 1).trans rfl, (blk_cell BK135.out 2).trans rfl⟩ (fun hHeld => ?_)
       clear hK K
       refine nm 54 ?_
       refine pu 12 4 (bm 14 8191) ?_
       refine pu 13 5 (bm 14 16383) ?_
       refine done_ (done_of HT_.out (by kernel_rfl)) ?_
       try go_wp2
       go_ret2
       exact ⟨_, zz13, zz25 HO170, zz6 GE135⟩
 ·replace c4 := Bool.eq_false_iff.mpr c4
  subst c4
  have H1 : (some ((([] : List (S34))), false)) = some (r1, r2) := by rw [if_neg (show ¬ (false = true) by decide)] at H; exact H
  clear H
  have H := H1
  clear H1
  obtain ⟨y137, hy137⟩ : ∃ y_ : List (S34), y_ = (([] : List (S34))) := ⟨_, rfl⟩
  replace H : (some (y137, false)) = some (r1, r2) := by first | (rw [hy137]; with_reducible exact H) | (have H2_ := (Option.bind_some _ _).symm.trans H; rw [hy137]; with_reducible exact H2_) | (have H2_ := (Option.bind_some _ _).symm.trans H; with_reducible exact H2_) | with_reducible exact H | (rw [hy137]; exact H) | exact H
  have Ny137 := Aside0.mk hy137
  clear hy137
  simp only [Option.some.injEq, Prod.mk.injEq] at H
  obtain ⟨rfl, rfl⟩ := H
  go_enter Tryz.func56, Tryz.ntmps56
  go_wp2_with (first | (refine be 3 #[.int .i64 a1_0, .int .i64 a1_1, .int .i64 a1_2] 34 ?_; intro gb135 hg w53 hbox hb; have BK135 := Aside0.mk hbox; have GW135 := Aside0.mk (zz16 : w.heap.size ≤ gb135); have GE135 := Aside0.mk (zz16 : w.heap.size ≤ gb135); replace HB := Aside0.mk (below_step zz3 hb); clear hb hbox hg) | (refine gc (some 10) Tryz.func23 #[.slice A0 l0.length c0] ?_; (with_reducible refine (spec_WaysOk.calls k _ _ l0 false _ ?side1 ?side2 A3.out).mono ?_); (case side1 => exact zz20 HR0); (case side2 => exact HC0.out); rintro e w54 ⟨rfl, hb⟩; refine ⟨_, rfl, ?_⟩; replace BK135 := Aside0.mk (blk_below (g := gb135) (o := .cells #[.int .i64 a1_0, .int .i64 a1_1, .int .i64 a1_2] 34 (0, 0)) (zz5 BK135) hb); replace HB := Aside0.mk (below_step (zz6 GE135) hb); clear hb) | (refine gt 12 ?_; refine rl k34 34 12 ([] : List (S34)) [] ?hp ?_; (case hp => exact zz19); intro v138 w55 ho56 hb hg_ hnew_; clear hg_ hnew_; (first | rw [← Ny137.out] at ho56 | (simp only [Int.reduceToNat] at ho56; rw [← Ny137.out] at ho56)); have HO139 := Aside0.mk (Kd.R_lower (Kd.R_newB ho56 (g := gb135) (o := .cells #[.int .i64 a1_0, .int .i64 a1_1, .int .i64 a1_2] 34 (0, 0)) (zz5 BK135)) (below_size (zz6 GE135))); replace BK135 := Aside0.mk (blk_below (g := gb135) (o := .cells #[.int .i64 a1_0, .int .i64 a1_1, .int .i64 a1_2] 34 (0, 0)) (zz5 BK135) hb); replace HB := Aside0.mk (below_step (zz6 GE135) hb); clear hb ho56))
  go_ret2
  exact ⟨_, zz13, zz25 HO139, zz6 GE135⟩
def spec_l12Addr.f (k : Nat) (s0_0 : List Int) (s0_1 : Int) : Option (Int × Int) := (spec_l1Rd_pick.f k s0_0 s0_1 256).bind fun bt171 => ((spec_l1Rd_pick.f k s0_0 bt171.2 8).bind fun bt173 => ((spec_l1Rd_pick.f k s0_0 bt173.2 16).bind fun bt175 => ((spec_l1Rd_pick.f k s0_0 bt175.2 256).bind fun bt177 => ((spec_l1Rd_pick.f k s0_0 bt177.2 64).bind fun bt179 => ((spec_l1Rd_one.f k s0_0 bt179.2 (([wrap64 (167772160 + bt171.1), wrap64 (167772160 + bt173.1), wrap64 (167772416 + bt175.1), wrap64 (3232235520 + bt177.1), 0, 4294967295, 184549375, wrap64 (2886729728 + (wrap64 (bt179.1 * 256)))] : List Int))).bind fun bt184 => (some (bt184.1, bt184.2)))))))
set_option maxHeartbeats 8000000 in
set_option maxRecDepth 100000 in
theorem spec_l12Addr.calls (k : Nat) (g : Nat) (s0_0 : List Int) (s0_1 : Int) (r1 : Int) (r2 : Int) (w0 w : World) (hI : IsS64 w0 w g s0_0 s0_1) (hB : Below w0.heap.size w0 w) (h : spec_l12Addr.f k s0_0 s0_1 = some (r1, r2)) :
  Calls Tryz.prog 53 #[.pointer (some ⟨g, 0, none⟩)] w fun e w' => e = .returned (.int .i64 r1) ∧ IsS64 w0 w' g s0_0 r2 ∧ Below w0.heap.size w0 w' ∧ KeepBut w w' g none := by
 have HI0 := Aside0.mk hI
 have HK := Aside0.mk (KeepBut.refl w g none)
 have HL := Aside0.mk hB.size
 clear hI
 have HW0 := Aside0.mk hB.size
 have HB := Aside0.mk hB
 clear hB
 have H : ((spec_l1Rd_pick.f k s0_0 s0_1 256).bind fun bt171 => ((spec_l1Rd_pick.f k s0_0 bt171.2 8).bind fun bt173 => ((spec_l1Rd_pick.f k s0_0 bt173.2 16).bind fun bt175 => ((spec_l1Rd_pick.f k s0_0 bt175.2 256).bind fun bt177 => ((spec_l1Rd_pick.f k s0_0 bt177.2 64).bind fun bt179 => ((spec_l1Rd_one.f k s0_0 bt179.2 (([wrap64 (167772160 + bt171.1), wrap64 (167772160 + bt173.1), wrap64 (167772416 + bt175.1), wrap64 (3232235520 + bt177.1), 0, 4294967295, 184549375, wrap64 (2886729728 + (wrap64 (bt179.1 * 256)))] : List Int))).bind fun bt184 => (some (bt184.1, bt184.2)))))))) = some (r1, r2) := h
 clear h
 replace H := bd H
 obtain ⟨⟨t171, t172⟩, A2, H⟩ := H
 replace H : ((spec_l1Rd_pick.f k s0_0 t172 8).bind fun bt173 => ((spec_l1Rd_pick.f k s0_0 bt173.2 16).bind fun bt175 => ((spec_l1Rd_pick.f k s0_0 bt175.2 256).bind fun bt177 => ((spec_l1Rd_pick.f k s0_0 bt177.2 64).bind fun bt179 => ((spec_l1Rd_one.f k s0_0 bt179.2 (([wrap64 (167772160 + t171), wrap64 (167772160 + bt173.1), wrap64 (167772416 + bt175.1), wrap64 (3232235520 + bt177.1), 0, 4294967295, 184549375, wrap64 (2886729728 + (wrap64 (bt179.1 * 256)))] : List Int))).bind fun bt184 => (some (bt184.1, bt184.2))))))) = some (r1, r2) := H
 replace H := bd H
 obtain ⟨⟨t173, t174⟩, A3, H⟩ := H
 replace H : ((spec_l1Rd_pick.f k s0_0 t174 16).bind fun bt175 => ((spec_l1Rd_pick.f k s0_0 bt175.2 256).bind fun bt177 => ((spec_l1Rd_pick.f k s0_0 bt177.2 64).bind fun bt179 => ((spec_l1Rd_one.f k s0_0 bt179.2 (([wrap64 (167772160 + t171), wrap64 (167772160 + t173), wrap64 (167772416 + bt175.1), wrap64 (3232235520 + bt177.1), 0, 4294967295, 184549375, wrap64 (2886729728 + (wrap64 (bt179.1 * 256)))] : List Int))).bind fun bt184 => (some (bt184.1, bt184.2)))))) = some (r1, r2) := H
 replace H := bd H
 obtain ⟨⟨t175, t176⟩, A4, H⟩ := H
 replace H : ((spec_l1Rd_pick.f k s0_0 t176 256).bind fun bt177 => ((spec_l1Rd_pick.f k s0_0 bt177.2 64).bind fun bt179 => ((spec_l1Rd_one.f k s0_0 bt179.2 (([wrap64 (167772160 + t171), wrap64 (167772160 + t173), wrap64 (167772416 + t175), wrap64 (3232235520 + bt177.1), 0, 4294967295, 184549375, wrap64 (2886729728 + (wrap64 (bt179.1 * 256)))] : List Int))).bind fun bt184 => (some (bt184.1, bt184.2))))) = some (r1, r2) := H
 replace H := bd H
 obtain ⟨⟨t177, t178⟩, A5, H⟩ := H
 replace H : ((spec_l1Rd_pick.f k s0_0 t178 64).bind fun bt179 => ((spec_l1Rd_one.f k s0_0 bt179.2 (([wrap64 (167772160 + t171), wrap64 (167772160 + t173), wrap64 (167772416 + t175), wrap64 (3232235520 + t177), 0, 4294967295, 184549375, wrap64 (2886729728 + (wrap64 (bt179.1 * 256)))] : List Int))).bind fun bt184 => (some (bt184.1, bt184.2)))) = some (r1, r2) := H
 replace H := bd H
 obtain ⟨⟨t179, t180⟩, A6, H⟩ := H
 replace H : ((spec_l1Rd_one.f k s0_0 t180 (([wrap64 (167772160 + t171), wrap64 (167772160 + t173), wrap64 (167772416 + t175), wrap64 (3232235520 + t177), 0, 4294967295, 184549375, wrap64 (2886729728 + (wrap64 (t179 * 256)))] : List Int))).bind fun bt184 => (some (bt184.1, bt184.2))) = some (r1, r2) := H
 obtain ⟨y181, hy181⟩ : ∃ y_ : List Int, y_ = (([wrap64 (167772160 + t171), wrap64 (167772160 + t173), wrap64 (167772416 + t175), wrap64 (3232235520 + t177), 0, 4294967295, 184549375, wrap64 (2886729728 + (wrap64 (t179 * 256)))] : List Int)) := ⟨_, rfl⟩
 replace H : ((spec_l1Rd_one.f k s0_0 t180 y181).bind fun bt184 => (some (bt184.1, bt184.2))) = some (r1, r2) := by first | (rw [hy181]; with_reducible exact H) | (have H2_ := (Option.bind_some _ _).symm.trans H; rw [hy181]; with_reducible exact H2_) | (have H2_ := (Option.bind_some _ _).symm.trans H; with_reducible exact H2_) | with_reducible exact H | (rw [hy181]; exact H) | exact H
 have Ny181 := Aside0.mk hy181
 clear hy181
 replace H := bd H
 obtain ⟨⟨t184, t185⟩, A7, H⟩ := H
 replace H : (some (t184, t185)) = some (r1, r2) := H
 simp only [Option.some.injEq, Prod.mk.injEq] at H
 obtain ⟨rfl, rfl⟩ := H
 go_enter Tryz.func53, Tryz.ntmps53
 go_wp2_with (first | (refine gc (some 5) Tryz.func28 #[.pointer (some ⟨g, 0, none⟩), .int .i64 256] ?_; (with_reducible refine (spec_l1Rd_pick.calls k g s0_0 s0_1 256 t171 t172 w0 _ ?side1 ?side2 A2.out).mono ?_); (case side1 => exact zz10 HI0); (case side2 => exact zz12 HI0); rintro e w8 ⟨rfl, hi, hb, hk⟩; refine ⟨_, rfl, ?_⟩; replace HK := Aside0.mk (KeepBut.trans zz11 hk (.inl rfl)); replace HB := Aside0.mk hb; replace HI0 := Aside0.mk hi; clear hb hk hi) | (refine gc (some 8) Tryz.func28 #[.pointer (some ⟨g, 0, none⟩), .int .i64 8] ?_; (with_reducible refine (spec_l1Rd_pick.calls k g s0_0 t172 8 t173 t174 w0 _ ?side1 ?side2 A3.out).mono ?_); (case side1 => exact zz10 HI0); (case side2 => exact zz12 HI0); rintro e w9 ⟨rfl, hi, hb, hk⟩; refine ⟨_, rfl, ?_⟩; replace HK := Aside0.mk (KeepBut.trans zz11 hk (.inl rfl)); replace HB := Aside0.mk hb; replace HI0 := Aside0.mk hi; clear hb hk hi) | (refine gc (some 11) Tryz.func28 #[.pointer (some ⟨g, 0, none⟩), .int .i64 16] ?_; (with_reducible refine (spec_l1Rd_pick.calls k g s0_0 t174 16 t175 t176 w0 _ ?side1 ?side2 A4.out).mono ?_); (case side1 => exact zz10 HI0); (case side2 => exact zz12 HI0); rintro e w10 ⟨rfl, hi, hb, hk⟩; refine ⟨_, rfl, ?_⟩; replace HK := Aside0.mk (KeepBut.trans zz11 hk (.inl rfl)); replace HB := Aside0.mk hb; replace HI0 := Aside0.mk hi; clear hb hk hi) | (refine gc (some 14) Tryz.func28 #[.pointer (some ⟨g, 0, none⟩), .int .i64 256] ?_; (with_reducible refine (spec_l1Rd_pick.calls k g s0_0 t176 256 t177 t178 w0 _ ?side1 ?side2 A5.out).mono ?_); (case side1 => exact zz10 HI0); (case side2 => exact zz12 HI0); rintro e w11 ⟨rfl, hi, hb, hk⟩; refine ⟨_, rfl, ?_⟩; replace HK := Aside0.mk (KeepBut.trans zz11 hk (.inl rfl)); replace HB := Aside0.mk hb; replace HI0 := Aside0.mk hi; clear hb hk hi) | (refine gc (some 17) Tryz.func28 #[.pointer (some ⟨g, 0, none⟩), .int .i64 64] ?_; (with_reducible refine (spec_l1Rd_pick.calls k g s0_0 t178 64 t179 t180 w0 _ ?side1 ?side2 A6.out).mono ?_); (case side1 => exact zz10 HI0); (case side2 => exact zz12 HI0); rintro e w12 ⟨rfl, hi, hb, hk⟩; refine ⟨_, rfl, ?_⟩; replace HK := Aside0.mk (KeepBut.trans zz11 hk (.inl rfl)); replace HB := Aside0.mk hb; replace HI0 := Aside0.mk hi; clear hb hk hi) | (refine gt 20 ?_; refine rl (Kd.int .i64) 3 20 ([wrap64 (167772160 + t171), wrap64 (167772160 + t173), wrap64 (167772416 + t175), wrap64 (3232235520 + t177), 0, 4294967295, 184549375, wrap64 (2886729728 + (wrap64 (t179 * 256)))] : List Int) [.int .i64 (wrap64 (167772160 + t171)), .int .i64 (wrap64 (167772160 + t173)), .int .i64 (wrap64 (167772416 + t175)), .int .i64 (wrap64 (3232235520 + t177)), .int .i64 0, .int .i64 4294967295, .int .i64 184549375, .int .i64 (wrap64 (2886729728 + (wrap64 (t179 * 256))))] ?hp ?_; (case hp => exact (ro (ro (ro (ro (ro (ro (ro (Reps.one (show Kd.M (Kd.int .i64) _ _ _ (wrap64 (2886729728 + (wrap64 (t179 * 256)))) [.int .i64 (wrap64 (2886729728 + (wrap64 (t179 * 256))))] from rfl) (Reps.none _ _)))))))))); intro v182 w13 ho14 hb hg_ hnew_; clear hg_ hnew_; (first | rw [← Ny181.out] at ho14 | (simp only [Int.reduceToNat] at ho14; rw [← Ny181.out] at ho14)); have HO183 := Aside0.mk (Kd.R_lower ho14 (keep_size (w := w) (g := g) (row := none) zz11)); replace HK := Aside0.mk (KeepBut.trans zz11 (KeepBut.of_below hb g none) (.inl rfl)); replace HB := Aside0.mk (below_step (zz12 HI0) hb); replace HI0 := Aside0.mk (IsS64.below (zz10 HI0) hb); clear hb ho14; obtain ⟨Ao15, co15, eo15⟩ := Kd.R_slice HO183.out; subst eo15) | (refine gc (some 21) Tryz.func15 #[.pointer (some ⟨g, 0, none⟩), .slice Ao15 y181.length co15] ?_; (with_reducible refine (spec_l1Rd_one.calls k g s0_0 t180 _ _ y181 t184 t185 w0 _ ?side1 ?side2 ?side3 ?side4 ?side5 A7.out).mono ?_); (case side1 => exact zz10 HI0); (case side2 => exact zz12 HI0); (case side3 => exact zz31 HO183); (case side4 => exact zz33 HO183); (case side5 => exact zz34 HI0 HO183); rintro e w16 ⟨rfl, hi, hb, hk⟩; refine ⟨_, rfl, ?_⟩; replace HO183 := Aside0.mk (Kd.R_mono (Kd.R_keep (IsS64.apart (show IsS64 w0 _ g s0_0 t180 from zz10 HI0) (zz22 HO183) (by decide)) hk (fun _ h => h.2)) (fun _ h => h.1)); replace HK := Aside0.mk (KeepBut.trans zz11 hk (.inl rfl)); replace HB := Aside0.mk hb; replace HI0 := Aside0.mk hi; clear hb hk hi))
 go_ret
 exact ⟨zz13, zz10 HI0, zz12 HI0, zz11⟩
end Go.Proofs.YthkjkmgbdahggaaGreat.PY
