/- A text printed by this session's wip/myprint.py over the kit's print: contracts of functions of the given program, each at what its Lean function says. -/
import Derived.Test.YthkjkmgbdahggaaGreatPYx0
import Derived.Test.YthkjkmgbdahggaaGreatPYx7
import Derived.Test.YthkjkmgbdahggaaGreatPYx13
import Derived.Test.YthkjkmgbdahggaaGreatPYx16
import Derived.Test.YthkjkmgbdahggaaGreatPYx17
import Derived.Test.YthkjkmgbdahggaaGreatPYx18
namespace Go.Proofs.YthkjkmgbdahggaaGreat.PY
open Go.RowKit Go.Proofs.YthkjkmgbdahggaaGreatW.PrintWords Go.Proofs.YthkjkmgbdahggaaGreatW.PrintLast Go.Proofs.YthkjkmgbdahggaaGreatW.PrintMore Go.Proofs.YthkjkmgbdahggaaGreat.Sq
attribute [local go_sem] max2_int min2_int max_two min_two max_three min_three max_four min_four   -- for this text's walks alone
set_option linter.unusedVariables false
set_option linter.unusedSimpArgs false
mutual
def laws_FnWaysTo.j0 : Nat → List Int → List Int → Bool → Option (Bool)
 | 0, _, _, _ => none
 | k + 1, x0, x1, x26 => if x26 = true then (some true) else ((spec_DrawWaysTo.f k x0).bind fun bt607 => ((impl_WaysTo.f k bt607.1 bt607.2).bind fun bt611 => ((spec_WaysTo.f k bt607.1 bt607.2).bind fun bt615 => (if (bt611.2 != bt615.2) = true then (laws_FnWaysTo.j1 k x1 bt607.1 bt607.2 bt611.1 bt611.2 bt615.1 bt615.2 true) else ((laws_ovBlocks.f k bt611.1 bt615.1).bind fun t619 => (if t619 = true then (laws_FnWaysTo.j1 k x1 bt607.1 bt607.2 bt611.1 bt611.2 bt615.1 bt615.2 (!bt611.2)) else (laws_FnWaysTo.j1 k x1 bt607.1 bt607.2 bt611.1 bt611.2 bt615.1 bt615.2 true)))))))
def laws_FnWaysTo.j1 : Nat → List Int → List (S34) → Int → List (S32) → Bool → List (S32) → Bool → Bool → Option (Bool)
 | 0, _, _, _, _, _, _, _, _ => none
 | k + 1, x1, x5, x6, x7, x8, x9, x10, x56 => if x56 = true then (if (x8 == x10) = true then ((laws_ovBlocks.f k x7 x9).bind fun t620 => (some t620)) else (some false)) else ((spec_DrawWaysLead.f k x1).bind fun bt621 => (laws_FnWaysTo.l0 k x5 x6 x7 bt621.2 0 true (-1)))
def laws_FnWaysTo.l0 : Nat → List (S34) → Int → List (S32) → Int → Int → Bool → Int → Option (Bool)
 | 0, _, _, _, _, _, _, _ => none
 | k + 1, x5, x6, x7, x12, x13, x14, x15 => if x15 ≤ 2 then ((impl_WaysTo.f k x5 x15).bind fun bt625 => (if x14 = true then ((impl_SetSize.f k bt625.1).bind fun t629 => (laws_FnWaysTo.l0 k x5 x6 x7 x12 (wrap64 (x13 + t629)) bt625.2 (wrap64 (x15 + 1)))) else ((impl_SetSize.f k bt625.1).bind fun t630 => (laws_FnWaysTo.l0 k x5 x6 x7 x12 (wrap64 (x13 + t630)) false (wrap64 (x15 + 1)))))) else (laws_FnWaysTo.l1 k x5 x6 x7 x12 x13 x14 0)
def laws_FnWaysTo.l1 : Nat → List (S34) → Int → List (S32) → Int → Int → Bool → Int → Option (Bool)
 | 0, _, _, _, _, _, _, _ => none
 | k + 1, x5, x6, x7, x12, x13, x14, x18 => if x18 < (x5.length : Int) then (if x14 = true then (if 0 ≤ x18 then (laws_FnWaysTo.l1 k x5 x6 x7 x12 x13 (decide (((rd_T34 x5 x18).f1) ≤ 2)) (wrap64 (x18 + 1))) else (none)) else (laws_FnWaysTo.l1 k x5 x6 x7 x12 x13 false (wrap64 (x18 + 1)))) else ((impl_SetOk.f k x7).bind fun t632 => (if t632 = true then ((impl_SetHas.f k x7 x12).bind fun t633 => (if x12 ≥ 0 then (if x12 ≤ 4294967295 then ((impl_WaysLead.f k x5 x12).bind fun t634 => (if (t633 == (t634 == x6)) = true then (if x14 = true then (some (x13 == 4294967296)) else (some true)) else (some false))) else (if (t633 == false) = true then (if x14 = true then (some (x13 == 4294967296)) else (some true)) else (some false))) else (if (t633 == false) = true then (if x14 = true then (some (x13 == 4294967296)) else (some true)) else (some false)))) else (some false)))
end
def laws_FnWaysTo.f (k : Nat) (l0 : List Int) (l1 : List Int) : Option (Bool) := if (l0.length : Int) > 1048576 then (laws_FnWaysTo.j0 k l0 l1 true) else (laws_FnWaysTo.j0 k l0 l1 (decide ((l1.length : Int) > 1048576)))
set_option maxHeartbeats 8000000 in
set_option maxRecDepth 100000 in
theorem laws_FnWaysTo.calls (k : Nat) (A0 : Option Addr) (c0 : Nat) (l0 : List Int) (A1 : Option Addr) (c1 : Nat) (l1 : List Int) (r : Bool) (w : World) (hr0 : Kd.C (Kd.int .u8) w A0 l0.length l0) (hc0 : l0.length ≤ c0) (hr1 : Kd.C (Kd.int .u8) w A1 l1.length l1) (hc1 : l1.length ≤ c1) (h : laws_FnWaysTo.f k l0 l1 = some r) :
  Calls Tryz.prog 3 #[.slice A0 l0.length c0, .slice A1 l1.length c1] w fun e w' => e = .returned (.bool r) ∧ Below w.heap.size w w' := by
 have HR0 := Aside0.mk hr0
 have HC0 := Aside0.mk hc0
 clear hr0 hc0
 have HR1 := Aside0.mk hr1
 have HC1 := Aside0.mk hc1
 clear hr1 hc1
 have HB := Aside0.mk (Below.refl w.heap.size w)
 have H : (if (l0.length : Int) > 1048576 then (laws_FnWaysTo.j0 k l0 l1 true) else (laws_FnWaysTo.j0 k l0 l1 (decide ((l1.length : Int) > 1048576)))) = some r := h
 clear h
 have HC3 := Aside0.mk H
 clear H
 go_enter Tryz.func3, Tryz.ntmps3
 go_upto_region 1 with (fail)
 go_cut [26] (fun v26 wc => ∃ (kq : Nat) (x26_2 : Bool), v26 = .bool x26_2 ∧ Aside0 (laws_FnWaysTo.j0 kq l0 l1 x26_2 = some r) ∧ Aside0 (kq ≤ k) ∧ Aside0 (Below w.heap.size w wc))
 case first =>
  have H := HC3.out
  clear HC3
  by_cases c4 : (l0.length : Int) > 1048576
  ·rw [if_pos c4] at H
   have c4b0 : decide (1048576 < (l0.length : Int)) = true := decide_eq_true c4
   have c4b1 : decide (1048576 < l0.length) = true := decide_eq_true (by omega)
   clear c4
   (first | rw [c4b0] | (simp only [i64_w, i32_w]; rw [c4b0]) | skip)
   have H' := Aside0.mk H
   clear H
   go_wp2
   go_meet
   case rel => exact ⟨_, (true), zz8, H', ⟨zz9⟩, ⟨zz3⟩⟩
  ·rw [if_neg c4] at H
   have c4b0 : decide (1048576 < (l0.length : Int)) = false := decide_eq_false c4
   have c4b1 : decide (1048576 < l0.length) = false := decide_eq_false (by omega)
   clear c4
   (first | rw [c4b0] | (simp only [i64_w, i32_w]; rw [c4b0]) | skip)
   have H' := Aside0.mk H
   clear H
   go_wp2
   go_meet
   case rel => exact ⟨_, (decide ((l1.length : Int) > 1048576)), zz8, H', ⟨zz9⟩, ⟨zz3⟩⟩
 case rest =>
  clear HC3
  try clear c1
  try clear p2
  try clear c3
  try clear c4
  try clear c4b0
  try clear c4b1
  obtain ⟨kq, x26_2, rfl, HA, HJ2, HB⟩ := hcut
  cases kq with
  | zero => exact absurd HA.out (by simp [laws_FnWaysTo.j0])
  | succ kj2 =>
   have H := HA.out
   clear HA
   simp only [laws_FnWaysTo.j0] at H
   by_cases c5 : x26_2 = true
   ·subst c5
    have H1 : (some true) = some r := by rw [if_pos rfl] at H; exact H
    clear H
    have H := H1
    clear H1
    obtain rfl := Option.some.inj H
    go_wp2
    go_ret
    exact ⟨zz13, zz3⟩
   ·replace c5 := Bool.eq_false_iff.mpr c5
    subst c5
    have H1 : ((spec_DrawWaysTo.f kj2 l0).bind fun bt607 => ((impl_WaysTo.f kj2 bt607.1 bt607.2).bind fun bt611 => ((spec_WaysTo.f kj2 bt607.1 bt607.2).bind fun bt615 => (if (bt611.2 != bt615.2) = true then (laws_FnWaysTo.j1 kj2 l1 bt607.1 bt607.2 bt611.1 bt611.2 bt615.1 bt615.2 true) else ((laws_ovBlocks.f kj2 bt611.1 bt615.1).bind fun t619 => (if t619 = true then (laws_FnWaysTo.j1 kj2 l1 bt607.1 bt607.2 bt611.1 bt611.2 bt615.1 bt615.2 (!bt611.2)) else (laws_FnWaysTo.j1 kj2 l1 bt607.1 bt607.2 bt611.1 bt611.2 bt615.1 bt615.2 true))))))) = some r := by rw [if_neg (show ¬ (false = true) by decide)] at H; exact H
    clear H
    have H := H1
    clear H1
    replace H := bd H
    obtain ⟨⟨t607, t608⟩, A6, H⟩ := H
    replace H : ((impl_WaysTo.f kj2 t607 t608).bind fun bt611 => ((spec_WaysTo.f kj2 t607 t608).bind fun bt615 => (if (bt611.2 != bt615.2) = true then (laws_FnWaysTo.j1 kj2 l1 t607 t608 bt611.1 bt611.2 bt615.1 bt615.2 true) else ((laws_ovBlocks.f kj2 bt611.1 bt615.1).bind fun t619 => (if t619 = true then (laws_FnWaysTo.j1 kj2 l1 t607 t608 bt611.1 bt611.2 bt615.1 bt615.2 (!bt611.2)) else (laws_FnWaysTo.j1 kj2 l1 t607 t608 bt611.1 bt611.2 bt615.1 bt615.2 true)))))) = some r := H
    replace H := bd H
    obtain ⟨⟨t611, t614⟩, A7, H⟩ := H
    replace H : ((spec_WaysTo.f kj2 t607 t608).bind fun bt615 => (if (t614 != bt615.2) = true then (laws_FnWaysTo.j1 kj2 l1 t607 t608 t611 t614 bt615.1 bt615.2 true) else ((laws_ovBlocks.f kj2 t611 bt615.1).bind fun t619 => (if t619 = true then (laws_FnWaysTo.j1 kj2 l1 t607 t608 t611 t614 bt615.1 bt615.2 (!t614)) else (laws_FnWaysTo.j1 kj2 l1 t607 t608 t611 t614 bt615.1 bt615.2 true))))) = some r := H
    replace H := bd H
    obtain ⟨⟨t615, t616⟩, A8, H⟩ := H
    replace H : (if (t614 != t616) = true then (laws_FnWaysTo.j1 kj2 l1 t607 t608 t611 t614 t615 t616 true) else ((laws_ovBlocks.f kj2 t611 t615).bind fun t619 => (if t619 = true then (laws_FnWaysTo.j1 kj2 l1 t607 t608 t611 t614 t615 t616 (!t614)) else (laws_FnWaysTo.j1 kj2 l1 t607 t608 t611 t614 t615 t616 true)))) = some r := H
    have HC9 := Aside0.mk H
    clear H
    go_upto_region 6 with (first | (refine gc (some 29) Tryz.func4 #[.slice A0 l0.length c0] ?_; (with_reducible refine (spec_DrawWaysTo.calls kj2 _ _ l0 t607 t608 _ ?side1 ?side2 A6.out).mono ?_); (case side1 => exact zz20 HR0); (case side2 => exact HC0.out); rintro e w10 ⟨v609, rfl, ho0, hb⟩; refine ⟨_, rfl, ?_⟩; have HO610 := Aside0.mk (Kd.R_lower ho0 (below_size zz3)); replace HB := Aside0.mk (below_step zz3 hb); clear hb ho0; obtain ⟨Ao11, co11, eo11⟩ := Kd.R_slice HO610.out; subst eo11) | (refine gc (some 35) Tryz.func5 #[.slice Ao11 t607.length co11, .int .i64 t608] ?_; (with_reducible refine (impl_WaysTo.calls kj2 (fun k_ => some k_ = (.slice Ao11 t607.length co11 : Value).ownBlock) _ _ t607 t608 t611 t614 _ ?side1 A7.out).mono ?_); (case side1 => exact Kd.R_V (Kd.R_tight rfl (HO610.out))); rintro e w12 ⟨v612, rfl, ho0, hb⟩; refine ⟨_, rfl, ?_⟩; replace HO610 := Aside0.mk (Kd.R_below (zz22 HO610) hb); have HO613 := Aside0.mk (Kd.R_lower (Kd.R_mono (ok' := fun k_ => True) ho0 (fun _ hk_ => trivial)) (below_size zz3)); replace HB := Aside0.mk (below_step zz3 hb); clear hb ho0) | (refine gc (some 41) Tryz.func6 #[.slice Ao11 t607.length co11, .int .i64 t608] ?_; (with_reducible refine (spec_WaysTo.calls kj2 _ _ t607 t608 t615 t616 _ ?side1 ?side2 A8.out).mono ?_); (case side1 => exact zz31 HO610); (case side2 => exact zz33 HO610); rintro e w13 ⟨v617, rfl, ho0, hb⟩; refine ⟨_, rfl, ?_⟩; replace HO610 := Aside0.mk (Kd.R_below (zz22 HO610) hb); have HO618 := Aside0.mk (Kd.R_lower (Kd.R_new' ho0 (Kd.R_lt (zz22 HO613))) (below_size zz3)); replace HO613 := Aside0.mk (Kd.R_elder' (zz22 HO613) (Kd.R_base ho0) hb); replace HB := Aside0.mk (below_step zz3 hb); clear hb ho0))
    (try simp only [Act.put, List.setIfInBounds_toArray, List.set_cons_zero, List.set_cons_succ])
    go_cut [56] (fun v56 wc => ∃ (kq : Nat) (x56_8 : Bool), v56 = .bool x56_8 ∧ Aside0 (laws_FnWaysTo.j1 kq l1 t607 t608 t611 t614 t615 t616 x56_8 = some r) ∧ Aside0 (kq ≤ kj2) ∧ Aside0 (Kd.R k34 34 wc w.heap.size (fun _ => True) (.slice Ao11 t607.length co11) t607) ∧ Aside0 (Kd.R k32 32 wc w.heap.size (fun k_ => some k_ ≠ (v617 : Value).ownBlock) v612 t611) ∧ Aside0 (Kd.R k32 32 wc w.heap.size (fun k_ => some k_ ≠ (v612 : Value).ownBlock) v617 t615) ∧ Aside0 (Below w.heap.size w wc))
    case first =>
     have H := HC9.out
     clear HC9
     by_cases c14 : (t614 != t616) = true
     ·rw [if_pos c14] at H
      have c14b0 : (t614 != t616) = true := c14
      (try (have c14b1 : decide (t614 = t616) = false := by simpa using c14))
      (try (have c14b2 : (t614 == t616) = false := by simpa using c14))
      (try (have c14b3 : ¬ (t614 = t616) := by simpa using c14))
      clear c14
      (first | rw [c14b0] | (simp only [i64_w, i32_w]; rw [c14b0]) | skip)
      have H' := Aside0.mk H
      clear H
      go_wp2
      go_meet
      case rel => exact ⟨_, (true), zz8, H', ⟨by have := HJ2.out; first | omega | exact Nat.le_refl _⟩, ⟨zz22 HO610⟩, ⟨zz24 HO613⟩, ⟨zz24 HO618⟩, ⟨zz3⟩⟩
     ·rw [if_neg c14] at H
      have c14b0 : (t614 != t616) = false := by simpa using c14
      (try (have c14b1 : decide (t614 = t616) = true := by simpa using c14))
      (try (have c14b2 : (t614 == t616) = true := by simpa using c14))
      clear c14
      (first | rw [c14b0] | (simp only [i64_w, i32_w]; rw [c14b0]) | skip)
      replace H := bd H
      obtain ⟨t619, A15, H⟩ := H
      replace H : (if t619 = true then (laws_FnWaysTo.j1 kj2 l1 t607 t608 t611 t614 t615 t616 (!t614)) else (laws_FnWaysTo.j1 kj2 l1 t607 t608 t611 t614 t615 t616 true)) = some r := H
      by_cases c16 : t619 = true
      ·subst c16
       have H1 : (laws_FnWaysTo.j1 kj2 l1 t607 t608 t611 t614 t615 t616 (!t614)) = some r := by rw [if_pos rfl] at H; exact H
       clear H
       have H := H1
       clear H1
       have H' := Aside0.mk H
       clear H
       obtain ⟨Ao17, co17, eo17⟩ := Kd.R_slice HO613.out
       subst eo17
       obtain ⟨Ao18, co18, eo18⟩ := Kd.R_slice HO618.out
       subst eo18
       go_wp2_with (first | (go_at_call 7; (with_reducible refine (laws_ovBlocks.calls kj2 _ _ t611 _ _ t615 true _ ?side1 ?side2 ?side3 ?side4 A15.out).mono ?_); (case side1 => exact zz31 HO613); (case side2 => exact zz33 HO613); (case side3 => exact zz31 HO618); (case side4 => exact zz33 HO618); rintro e w' ⟨rfl, ⟨nd, rfl⟩⟩))
       go_meet
       case rel => exact ⟨_, (!t614), zz8, H', ⟨by have := HJ2.out; first | omega | exact Nat.le_refl _⟩, ⟨zz22 HO610⟩, ⟨zz24 HO613⟩, ⟨zz24 HO618⟩, ⟨zz3⟩⟩
      ·replace c16 := Bool.eq_false_iff.mpr c16
       subst c16
       have H1 : (laws_FnWaysTo.j1 kj2 l1 t607 t608 t611 t614 t615 t616 true) = some r := by rw [if_neg (show ¬ (false = true) by decide)] at H; exact H
       clear H
       have H := H1
       clear H1
       have H' := Aside0.mk H
       clear H
       obtain ⟨Ao19, co19, eo19⟩ := Kd.R_slice HO613.out
       subst eo19
       obtain ⟨Ao20, co20, eo20⟩ := Kd.R_slice HO618.out
       subst eo20
       go_wp2_with (first | (go_at_call 7; (with_reducible refine (laws_ovBlocks.calls kj2 _ _ t611 _ _ t615 false _ ?side1 ?side2 ?side3 ?side4 A15.out).mono ?_); (case side1 => exact zz31 HO613); (case side2 => exact zz33 HO613); (case side3 => exact zz31 HO618); (case side4 => exact zz33 HO618); rintro e w' ⟨rfl, ⟨nd, rfl⟩⟩))
       go_meet
       case rel => exact ⟨_, (true), zz8, H', ⟨by have := HJ2.out; first | omega | exact Nat.le_refl _⟩, ⟨zz22 HO610⟩, ⟨zz24 HO613⟩, ⟨zz24 HO618⟩, ⟨zz3⟩⟩
    case rest =>
     clear HC9
     try clear c1
     try clear p2
     try clear c3
     try clear c4
     try clear c4b0
     try clear c4b1
     try clear c5
     try clear c6
     try clear c14
     try clear c14b0
     try clear c14b1
     try clear c14b2
     try clear c16
     try clear p2
     obtain ⟨kq, x56_8, rfl, HA, HJ8, HO_5, HO_7, HO_9, HB⟩ := hcut
     cases kq with
     | zero => exact absurd HA.out (by simp [laws_FnWaysTo.j1])
     | succ kj8 =>
      have H := HA.out
      clear HA
      simp only [laws_FnWaysTo.j1] at H
      by_cases c21 : x56_8 = true
      ·subst c21
       have H1 : (if (t614 == t616) = true then ((laws_ovBlocks.f kj8 t611 t615).bind fun t620 => (some t620)) else (some false)) = some r := by rw [if_pos rfl] at H; exact H
       clear H
       have H := H1
       clear H1
       by_cases c22 : (t614 == t616) = true
       ·rw [if_pos c22] at H
        have c22b0 : (t614 == t616) = true := c22
        (try (have c22b1 : decide (t614 = t616) = true := by simpa using c22))
        (try (have c22b2 : (t614 == t616) = true := by simpa using c22))
        clear c22
        replace H := bd H
        obtain ⟨t620, A23, H⟩ := H
        replace H : (some t620) = some r := H
        obtain rfl := Option.some.inj H
        obtain ⟨Ao24, co24, eo24⟩ := Kd.R_slice HO_7.out
        subst eo24
        obtain ⟨Ao25, co25, eo25⟩ := Kd.R_slice HO_9.out
        subst eo25
        go_wp2_with (first | (go_at_call 7; (with_reducible refine (laws_ovBlocks.calls kj8 _ _ t611 _ _ t615 t620 _ ?side1 ?side2 ?side3 ?side4 A23.out).mono ?_); (case side1 => exact zz31 HO_7); (case side2 => exact zz33 HO_7); (case side3 => exact zz31 HO_9); (case side4 => exact zz33 HO_9); rintro e w' ⟨rfl, ⟨nd, rfl⟩⟩))
        go_ret
        exact ⟨zz13, zz3⟩
       ·rw [if_neg c22] at H
        have c22b0 : (t614 == t616) = false := by simpa using c22
        (try (have c22b1 : decide (t614 = t616) = false := by simpa using c22))
        (try (have c22b2 : (t614 == t616) = false := by simpa using c22))
        (try (have c22b3 : ¬ (t614 = t616) := by simpa using c22))
        clear c22
        obtain rfl := Option.some.inj H
        go_wp2
        go_ret
        exact ⟨zz13, zz3⟩
      ·replace c21 := Bool.eq_false_iff.mpr c21
       subst c21
       have H1 : ((spec_DrawWaysLead.f kj8 l1).bind fun bt621 => (laws_FnWaysTo.l0 kj8 t607 t608 t611 bt621.2 0 true (-1))) = some r := by rw [if_neg (show ¬ (false = true) by decide)] at H; exact H
       clear H
       have H := H1
       clear H1
       replace H := bd H
       obtain ⟨⟨t621, t622⟩, A26, H⟩ := H
       replace H : (laws_FnWaysTo.l0 kj8 t607 t608 t611 t622 0 true (-1)) = some r := H
       have H' := Aside0.mk H
       clear H
       go_wp2_with (first | (refine gc (some 67) Tryz.func8 #[.slice A1 l1.length c1] ?_; (with_reducible refine (spec_DrawWaysLead.calls kj8 _ _ l1 t621 t622 _ ?side1 ?side2 A26.out).mono ?_); (case side1 => exact zz20 HR1); (case side2 => exact HC1.out); rintro e w27 ⟨v623, rfl, ho0, hb⟩; refine ⟨_, rfl, ?_⟩; replace HO_7 := Aside0.mk (Kd.R_below (zz22 HO_7) hb); replace HO_9 := Aside0.mk (Kd.R_below (zz22 HO_9) hb); have HO624 := Aside0.mk (Kd.R_lower (Kd.R_new' ho0 (Kd.R_lt (zz22 HO_5))) (below_size zz3)); replace HO_5 := Aside0.mk (Kd.R_elder' (zz22 HO_5) (Kd.R_base ho0) hb); replace HB := Aside0.mk (below_step zz3 hb); clear hb ho0))
       go_loopg [13, 14, 15] kj8 (fun kq v13 v14 v15 w' => ∃ (x13_3 : Int) (x14_3 : Bool) (x15_3 : Int), v13 = .int .i64 x13_3 ∧ v14 = .bool x14_3 ∧ v15 = .int .i64 x15_3 ∧ Aside0 (laws_FnWaysTo.l0 kq t607 t608 t611 t622 x13_3 x14_3 x15_3 = some r) ∧ Aside0 (kq ≤ kj8) ∧ Aside0 (Kd.R k34 34 w' w.heap.size (fun _ => True) (.slice Ao11 t607.length co11) t607) ∧ Aside0 (Kd.R k32 32 w' w.heap.size (fun _ => True) v612 t611) ∧ Aside0 (Below w.heap.size w w'))
       case atStart => exact ⟨(0), (true), ((-1)), zz8, zz8, zz8, H', ⟨Nat.le_refl _⟩, ⟨zz25 HO_5⟩, ⟨zz25 HO_7⟩, ⟨zz3⟩⟩
       case round =>
        clear H'
        try clear c1
        try clear c2
        try clear p2
        try clear c3
        try clear c4
        try clear c4b0
        try clear c4b1
        try clear c5
        try clear c6
        try clear c8
        try clear c14
        try clear c14b0
        try clear c14b1
        try clear c14b2
        try clear c16
        try clear c21
        try clear c22
        try clear c22b0
        try clear c22b1
        try clear c22b2
        try clear p2
        obtain ⟨x13_3, x14_3, x15_3, rfl, rfl, rfl, HA, HK3, HO_5, HO_7, HB⟩ := hrel
        cases gk with
        | zero => exact absurd HA.out (by simp [laws_FnWaysTo.l0])
        | succ k3 =>
         have H := HA.out
         clear HA
         simp only [laws_FnWaysTo.l0] at H
         replace H := ic H
         rcases H with ⟨c28b0, H⟩ | ⟨c28b0, H⟩
         ·replace H := Option.bind_eq_some_iff.mp H
          obtain ⟨⟨t625, t628⟩, A290, H⟩ := H
          replace H : (if x14_3 = true then ((impl_SetSize.f k3 t625).bind fun t629 => (laws_FnWaysTo.l0 k3 t607 t608 t611 t622 (wrap64 (x13_3 + t629)) t628 (wrap64 (x15_3 + 1)))) else ((impl_SetSize.f k3 t625).bind fun t630 => (laws_FnWaysTo.l0 k3 t607 t608 t611 t622 (wrap64 (x13_3 + t630)) false (wrap64 (x15_3 + 1))))) = some r := H
          have A29 := Aside0.mk A290
          clear A290
          by_cases c30 : x14_3 = true
          ·subst c30
           have H1 : ((impl_SetSize.f k3 t625).bind fun t629 => (laws_FnWaysTo.l0 k3 t607 t608 t611 t622 (wrap64 (x13_3 + t629)) t628 (wrap64 (x15_3 + 1)))) = some r := by rw [if_pos rfl] at H; exact H
           clear H
           have H := H1
           clear H1
           replace H := bd H
           obtain ⟨t629, A31, H⟩ := H
           replace H : (laws_FnWaysTo.l0 k3 t607 t608 t611 t622 (wrap64 (x13_3 + t629)) t628 (wrap64 (x15_3 + 1))) = some r := H
           have H' := Aside0.mk H
           clear H
           go_wp2_with (first | (refine gc (some 77) Tryz.func5 #[.slice Ao11 t607.length co11, .int .i64 x15_3] ?_; (with_reducible refine (impl_WaysTo.calls k3 (fun k_ => some k_ = (.slice Ao11 t607.length co11 : Value).ownBlock) _ _ t607 x15_3 t625 t628 _ ?side1 A29.out).mono ?_); (case side1 => exact Kd.R_V (Kd.R_tight rfl (Kd.R_apart' (HO_5.out) (Kd.R_typed HO_7.out) (by decide)))); rintro e w32 ⟨v626, rfl, ho0, hb⟩; refine ⟨_, rfl, ?_⟩; replace HO_5 := Aside0.mk (Kd.R_below (zz22 HO_5) hb); have HO627 := Aside0.mk (Kd.R_lower (Kd.R_new' (Kd.R_mono (ok' := fun k_ => True) ho0 (fun _ hk_ => trivial)) (Kd.R_lt (zz22 HO_7))) (below_size zz3)); replace HO_7 := Aside0.mk (Kd.R_elder' (zz22 HO_7) (Kd.R_base ho0) hb); replace HB := Aside0.mk (below_step zz3 hb); clear hb ho0; obtain ⟨Ao33, co33, eo33⟩ := Kd.R_slice HO627.out; subst eo33) | (refine gc (some 86) Tryz.func9 #[.slice Ao33 t625.length co33] ?_; (with_reducible refine (impl_SetSize.calls k3 _ _ t625 t629 _ ?side1 ?side2 A31.out).mono ?_); (case side1 => exact zz31 HO627); (case side2 => exact zz33 HO627); rintro e w34 ⟨rfl, hb⟩; refine ⟨_, rfl, ?_⟩; replace HO_5 := Aside0.mk (Kd.R_below (zz22 HO_5) hb); replace HO_7 := Aside0.mk (Kd.R_below (zz22 HO_7) hb); replace HO627 := Aside0.mk (Kd.R_below (zz22 HO627) hb); replace HB := Aside0.mk (below_step zz3 hb); clear hb))
           go_roundg k3
           case measure => have := HJ2.out; have := HJ8.out; have := HK3.out; omega
           case rel => exact ⟨(wrap64 (x13_3 + t629)), (t628), (wrap64 (x15_3 + 1)), zz8, zz8, zz8, H', ⟨by have := HJ2.out; have := HJ8.out; have := HK3.out; omega⟩, ⟨zz22 HO_5⟩, ⟨zz25 HO_7⟩, ⟨zz3⟩⟩
          ·replace c30 := Bool.eq_false_iff.mpr c30
           subst c30
           have H1 : ((impl_SetSize.f k3 t625).bind fun t630 => (laws_FnWaysTo.l0 k3 t607 t608 t611 t622 (wrap64 (x13_3 + t630)) false (wrap64 (x15_3 + 1)))) = some r := by rw [if_neg (show ¬ (false = true) by decide)] at H; exact H
           clear H
           have H := H1
           clear H1
           replace H := bd H
           obtain ⟨t630, A35, H⟩ := H
           replace H : (laws_FnWaysTo.l0 k3 t607 t608 t611 t622 (wrap64 (x13_3 + t630)) false (wrap64 (x15_3 + 1))) = some r := H
           have H' := Aside0.mk H
           clear H
           go_wp2_with (first | (refine gc (some 77) Tryz.func5 #[.slice Ao11 t607.length co11, .int .i64 x15_3] ?_; (with_reducible refine (impl_WaysTo.calls k3 (fun k_ => some k_ = (.slice Ao11 t607.length co11 : Value).ownBlock) _ _ t607 x15_3 t625 t628 _ ?side1 A29.out).mono ?_); (case side1 => exact Kd.R_V (Kd.R_tight rfl (Kd.R_apart' (HO_5.out) (Kd.R_typed HO_7.out) (by decide)))); rintro e w36 ⟨v626, rfl, ho0, hb⟩; refine ⟨_, rfl, ?_⟩; replace HO_5 := Aside0.mk (Kd.R_below (zz22 HO_5) hb); have HO627 := Aside0.mk (Kd.R_lower (Kd.R_new' (Kd.R_mono (ok' := fun k_ => True) ho0 (fun _ hk_ => trivial)) (Kd.R_lt (zz22 HO_7))) (below_size zz3)); replace HO_7 := Aside0.mk (Kd.R_elder' (zz22 HO_7) (Kd.R_base ho0) hb); replace HB := Aside0.mk (below_step zz3 hb); clear hb ho0; obtain ⟨Ao37, co37, eo37⟩ := Kd.R_slice HO627.out; subst eo37) | (refine gc (some 86) Tryz.func9 #[.slice Ao37 t625.length co37] ?_; (with_reducible refine (impl_SetSize.calls k3 _ _ t625 t630 _ ?side1 ?side2 A35.out).mono ?_); (case side1 => exact zz31 HO627); (case side2 => exact zz33 HO627); rintro e w38 ⟨rfl, hb⟩; refine ⟨_, rfl, ?_⟩; replace HO_5 := Aside0.mk (Kd.R_below (zz22 HO_5) hb); replace HO_7 := Aside0.mk (Kd.R_below (zz22 HO_7) hb); replace HO627 := Aside0.mk (Kd.R_below (zz22 HO627) hb); replace HB := Aside0.mk (below_step zz3 hb); clear hb))
           go_roundg k3
           case measure => have := HJ2.out; have := HJ8.out; have := HK3.out; omega
           case rel => exact ⟨(wrap64 (x13_3 + t630)), (false), (wrap64 (x15_3 + 1)), zz8, zz8, zz8, H', ⟨by have := HJ2.out; have := HJ8.out; have := HK3.out; omega⟩, ⟨zz22 HO_5⟩, ⟨zz25 HO_7⟩, ⟨zz3⟩⟩
         ·have H' := Aside0.mk H
          clear H
          go_wp2
          go_loopg [14, 18] k3 (fun kq v14 v18 w' => ∃ (x14_4 : Bool) (x18_4 : Int), v14 = .bool x14_4 ∧ v18 = .int .i64 x18_4 ∧ Aside0 (laws_FnWaysTo.l1 kq t607 t608 t611 t622 x13_3 x14_4 x18_4 = some r) ∧ Aside0 (kq ≤ k3) ∧ Aside0 (Kd.R k34 34 w' w.heap.size (fun _ => True) (.slice Ao11 t607.length co11) t607) ∧ Aside0 (Kd.R k32 32 w' w.heap.size (fun _ => True) v612 t611) ∧ Aside0 (Below w.heap.size w w'))
          case atStart => exact ⟨(x14_3), (0), zz8, zz8, H', ⟨Nat.le_refl _⟩, ⟨zz22 HO_5⟩, ⟨zz22 HO_7⟩, ⟨zz3⟩⟩
          case round =>
           clear H'
           try clear c1
           try clear c2
           try clear p2
           try clear c3
           try clear c4
           try clear c4b0
           try clear c4b1
           try clear c5
           try clear c6
           try clear p6
           try clear c8
           try clear c9
           try clear c14
           try clear c14b0
           try clear c14b1
           try clear c14b2
           try clear c16
           try clear c21
           try clear c22
           try clear c22b0
           try clear c22b1
           try clear c22b2
           try clear c28
           try clear c28b0
           try clear c30
           try clear p2
           obtain ⟨x14_4, x18_4, rfl, rfl, HA, HK4, HO_5, HO_7, HB⟩ := hrel
           cases gk with
           | zero => exact absurd HA.out (by simp [laws_FnWaysTo.l1])
           | succ k4 =>
            have H := HA.out
            clear HA
            simp only [laws_FnWaysTo.l1] at H
            replace H := ic H
            rcases H with ⟨c39b0, H⟩ | ⟨c39b0, H⟩
            ·by_cases c40 : x14_4 = true
             ·subst c40
              have H1 : (if 0 ≤ x18_4 then (laws_FnWaysTo.l1 k4 t607 t608 t611 t622 x13_3 (decide (((rd_T34 t607 x18_4).f1) ≤ 2)) (wrap64 (x18_4 + 1))) else (none)) = some r := by rw [if_pos rfl] at H; exact H
              clear H
              have H := H1
              clear H1
              replace H := gd H
              obtain ⟨c41b0, H⟩ := H
              have H' := Aside0.mk H
              clear H
              obtain ⟨⟨ad631, e631, hx631_0, hx631_1, hx631_2⟩, p631, q631⟩ := wi (at_T34 (Kd.R_reads' HO_5.out).2.2 x18_4)
              cases e631
              go_wp2
              go_roundg k4
              case measure => have := HJ2.out; have := HJ8.out; have := HK3.out; have := HK4.out; omega
              case rel => exact ⟨(decide (((rd_T34 t607 x18_4).f1) ≤ 2)), (wrap64 (x18_4 + 1)), zz8, zz8, H', ⟨by have := HJ2.out; have := HJ8.out; have := HK3.out; have := HK4.out; omega⟩, ⟨zz22 HO_5⟩, ⟨zz22 HO_7⟩, ⟨zz3⟩⟩
             ·replace c40 := Bool.eq_false_iff.mpr c40
              subst c40
              have H1 : (laws_FnWaysTo.l1 k4 t607 t608 t611 t622 x13_3 false (wrap64 (x18_4 + 1))) = some r := by rw [if_neg (show ¬ (false = true) by decide)] at H; exact H
              clear H
              have H := H1
              clear H1
              have H' := Aside0.mk H
              clear H
              go_wp2
              go_roundg k4
              case measure => have := HJ2.out; have := HJ8.out; have := HK3.out; have := HK4.out; omega
              case rel => exact ⟨(false), (wrap64 (x18_4 + 1)), zz8, zz8, H', ⟨by have := HJ2.out; have := HJ8.out; have := HK3.out; have := HK4.out; omega⟩, ⟨zz22 HO_5⟩, ⟨zz22 HO_7⟩, ⟨zz3⟩⟩
            ·replace H := Option.bind_eq_some_iff.mp H
             obtain ⟨t632, A420, H⟩ := H
             replace H : (if t632 = true then ((impl_SetHas.f k4 t611 t622).bind fun t633 => (if t622 ≥ 0 then (if t622 ≤ 4294967295 then ((impl_WaysLead.f k4 t607 t622).bind fun t634 => (if (t633 == (t634 == t608)) = true then (if x14_4 = true then (some (x13_3 == 4294967296)) else (some true)) else (some false))) else (if (t633 == false) = true then (if x14_4 = true then (some (x13_3 == 4294967296)) else (some true)) else (some false))) else (if (t633 == false) = true then (if x14_4 = true then (some (x13_3 == 4294967296)) else (some true)) else (some false)))) else (some false)) = some r := H
             have A42 := Aside0.mk A420
             clear A420
             by_cases c43 : t632 = true
             ·subst c43
              have H1 : ((impl_SetHas.f k4 t611 t622).bind fun t633 => (if t622 ≥ 0 then (if t622 ≤ 4294967295 then ((impl_WaysLead.f k4 t607 t622).bind fun t634 => (if (t633 == (t634 == t608)) = true then (if x14_4 = true then (some (x13_3 == 4294967296)) else (some true)) else (some false))) else (if (t633 == false) = true then (if x14_4 = true then (some (x13_3 == 4294967296)) else (some true)) else (some false))) else (if (t633 == false) = true then (if x14_4 = true then (some (x13_3 == 4294967296)) else (some true)) else (some false)))) = some r := by rw [if_pos rfl] at H; exact H
              clear H
              have H := H1
              clear H1
              replace H := bd H
              obtain ⟨t633, A44, H⟩ := H
              replace H : (if t622 ≥ 0 then (if t622 ≤ 4294967295 then ((impl_WaysLead.f k4 t607 t622).bind fun t634 => (if (t633 == (t634 == t608)) = true then (if x14_4 = true then (some (x13_3 == 4294967296)) else (some true)) else (some false))) else (if (t633 == false) = true then (if x14_4 = true then (some (x13_3 == 4294967296)) else (some true)) else (some false))) else (if (t633 == false) = true then (if x14_4 = true then (some (x13_3 == 4294967296)) else (some true)) else (some false))) = some r := H
              replace H := ic H
              rcases H with ⟨c45b0, H⟩ | ⟨c45b0, H⟩
              ·replace H := ic H
               rcases H with ⟨c46b0, H⟩ | ⟨c46b0, H⟩
               ·replace H := Option.bind_eq_some_iff.mp H
                obtain ⟨t634, A470, H⟩ := H
                replace H : (if (t633 == (t634 == t608)) = true then (if x14_4 = true then (some (x13_3 == 4294967296)) else (some true)) else (some false)) = some r := H
                have A47 := Aside0.mk A470
                clear A470
                by_cases c48 : (t633 == (t634 == t608)) = true
                ·rw [if_pos c48] at H
                 have c48b0 : (t633 == (t634 == t608)) = true := c48
                 (try (have c48b1 : decide (t633 = (t634 == t608)) = true := by simpa using c48))
                 (try (have c48b2 : (t633 == (t634 == t608)) = true := by simpa using c48))
                 clear c48
                 by_cases c49 : x14_4 = true
                 ·subst c49
                  have H1 : (some (x13_3 == 4294967296)) = some r := by rw [if_pos rfl] at H; exact H
                  clear H
                  have H := H1
                  clear H1
                  obtain rfl := Option.some.inj H
                  obtain ⟨Ao50, co50, eo50⟩ := Kd.R_slice HO_7.out
                  subst eo50
                  go_wp2_with (first | (refine gc (some 104) Tryz.func10 #[.slice Ao50 t611.length co50] ?_; (with_reducible refine (impl_SetOk.calls k4 _ _ t611 true _ ?side1 ?side2 A42.out).mono ?_); (case side1 => exact zz31 HO_7); (case side2 => exact zz33 HO_7); rintro e w51 ⟨rfl, hb⟩; refine ⟨_, rfl, ?_⟩; replace HO_5 := Aside0.mk (Kd.R_below (zz22 HO_5) hb); replace HO_7 := Aside0.mk (Kd.R_below (zz22 HO_7) hb); replace HB := Aside0.mk (below_step zz3 hb); clear hb) | (go_at_call 11; (with_reducible refine (impl_SetHas.calls k4 _ _ t611 t622 t633 _ ?side1 ?side2 A44.out).mono ?_); (case side1 => exact zz31 HO_7); (case side2 => exact zz33 HO_7); rintro e w52 ⟨rfl, hb⟩; replace HO_5 := Aside0.mk (Kd.R_below (zz22 HO_5) hb); replace HO_7 := Aside0.mk (Kd.R_below (zz22 HO_7) hb); replace HB := Aside0.mk (below_step zz3 hb); clear hb) | (go_at_call 12; (with_reducible refine (impl_WaysLead.calls k4 _ _ t607 t622 t634 _ ?side1 ?side2 A47.out).mono ?_); (case side1 => exact zz31 HO_5); (case side2 => exact zz33 HO_5); rintro e w53 ⟨rfl, hb⟩; replace HO_5 := Aside0.mk (Kd.R_below (zz22 HO_5) hb); replace HO_7 := Aside0.mk (Kd.R_below (zz22 HO_7) hb); replace HB := Aside0.mk (below_step zz3 hb); clear hb))
                  go_ret
                  exact ⟨zz13, zz3⟩
                 ·replace c49 := Bool.eq_false_iff.mpr c49
                  subst c49
                  have H1 : (some true) = some r := by rw [if_neg (show ¬ (false = true) by decide)] at H; exact H
                  clear H
                  have H := H1
                  clear H1
                  obtain rfl := Option.some.inj H
                  obtain ⟨Ao54, co54, eo54⟩ := Kd.R_slice HO_7.out
                  subst eo54
                  go_wp2_with (first | (refine gc (some 104) Tryz.func10 #[.slice Ao54 t611.length co54] ?_; (with_reducible refine (impl_SetOk.calls k4 _ _ t611 true _ ?side1 ?side2 A42.out).mono ?_); (case side1 => exact zz31 HO_7); (case side2 => exact zz33 HO_7); rintro e w55 ⟨rfl, hb⟩; refine ⟨_, rfl, ?_⟩; replace HO_5 := Aside0.mk (Kd.R_below (zz22 HO_5) hb); replace HO_7 := Aside0.mk (Kd.R_below (zz22 HO_7) hb); replace HB := Aside0.mk (below_step zz3 hb); clear hb) | (go_at_call 11; (with_reducible refine (impl_SetHas.calls k4 _ _ t611 t622 t633 _ ?side1 ?side2 A44.out).mono ?_); (case side1 => exact zz31 HO_7); (case side2 => exact zz33 HO_7); rintro e w56 ⟨rfl, hb⟩; replace HO_5 := Aside0.mk (Kd.R_below (zz22 HO_5) hb); replace HO_7 := Aside0.mk (Kd.R_below (zz22 HO_7) hb); replace HB := Aside0.mk (below_step zz3 hb); clear hb) | (go_at_call 12; (with_reducible refine (impl_WaysLead.calls k4 _ _ t607 t622 t634 _ ?side1 ?side2 A47.out).mono ?_); (case side1 => exact zz31 HO_5); (case side2 => exact zz33 HO_5); rintro e w57 ⟨rfl, hb⟩; replace HO_5 := Aside0.mk (Kd.R_below (zz22 HO_5) hb); replace HO_7 := Aside0.mk (Kd.R_below (zz22 HO_7) hb); replace HB := Aside0.mk (below_step zz3 hb); clear hb))
                  go_ret
                  exact ⟨zz13, zz3⟩
                ·rw [if_neg c48] at H
                 have c48b0 : (t633 == (t634 == t608)) = false := by simpa using c48
                 (try (have c48b1 : decide (t633 = (t634 == t608)) = false := by simpa using c48))
                 (try (have c48b2 : (t633 == (t634 == t608)) = false := by simpa using c48))
                 (try (have c48b3 : ¬ (t633 = (t634 == t608)) := by simpa using c48))
                 clear c48
                 obtain rfl := Option.some.inj H
                 obtain ⟨Ao58, co58, eo58⟩ := Kd.R_slice HO_7.out
                 subst eo58
                 go_wp2_with (first | (refine gc (some 104) Tryz.func10 #[.slice Ao58 t611.length co58] ?_; (with_reducible refine (impl_SetOk.calls k4 _ _ t611 true _ ?side1 ?side2 A42.out).mono ?_); (case side1 => exact zz31 HO_7); (case side2 => exact zz33 HO_7); rintro e w59 ⟨rfl, hb⟩; refine ⟨_, rfl, ?_⟩; replace HO_5 := Aside0.mk (Kd.R_below (zz22 HO_5) hb); replace HO_7 := Aside0.mk (Kd.R_below (zz22 HO_7) hb); replace HB := Aside0.mk (below_step zz3 hb); clear hb) | (go_at_call 11; (with_reducible refine (impl_SetHas.calls k4 _ _ t611 t622 t633 _ ?side1 ?side2 A44.out).mono ?_); (case side1 => exact zz31 HO_7); (case side2 => exact zz33 HO_7); rintro e w60 ⟨rfl, hb⟩; replace HO_5 := Aside0.mk (Kd.R_below (zz22 HO_5) hb); replace HO_7 := Aside0.mk (Kd.R_below (zz22 HO_7) hb); replace HB := Aside0.mk (below_step zz3 hb); clear hb) | (go_at_call 12; (with_reducible refine (impl_WaysLead.calls k4 _ _ t607 t622 t634 _ ?side1 ?side2 A47.out).mono ?_); (case side1 => exact zz31 HO_5); (case side2 => exact zz33 HO_5); rintro e w61 ⟨rfl, hb⟩; replace HO_5 := Aside0.mk (Kd.R_below (zz22 HO_5) hb); replace HO_7 := Aside0.mk (Kd.R_below (zz22 HO_7) hb); replace HB := Aside0.mk (below_step zz3 hb); clear hb))
                 go_ret
                 exact ⟨zz13, zz3⟩
               ·by_cases c62 : (t633 == false) = true
                ·rw [if_pos c62] at H
                 have c62b0 : (t633 == false) = true := c62
                 (try (have c62b1 : decide (t633 = false) = true := by simpa using c62))
                 (try (have c62b2 : (t633 == false) = true := by simpa using c62))
                 clear c62
                 by_cases c63 : x14_4 = true
                 ·subst c63
                  have H1 : (some (x13_3 == 4294967296)) = some r := by rw [if_pos rfl] at H; exact H
                  clear H
                  have H := H1
                  clear H1
                  obtain rfl := Option.some.inj H
                  obtain ⟨Ao64, co64, eo64⟩ := Kd.R_slice HO_7.out
                  subst eo64
                  go_wp2_with (first | (refine gc (some 104) Tryz.func10 #[.slice Ao64 t611.length co64] ?_; (with_reducible refine (impl_SetOk.calls k4 _ _ t611 true _ ?side1 ?side2 A42.out).mono ?_); (case side1 => exact zz31 HO_7); (case side2 => exact zz33 HO_7); rintro e w65 ⟨rfl, hb⟩; refine ⟨_, rfl, ?_⟩; replace HO_5 := Aside0.mk (Kd.R_below (zz22 HO_5) hb); replace HO_7 := Aside0.mk (Kd.R_below (zz22 HO_7) hb); replace HB := Aside0.mk (below_step zz3 hb); clear hb) | (go_at_call 11; (with_reducible refine (impl_SetHas.calls k4 _ _ t611 t622 t633 _ ?side1 ?side2 A44.out).mono ?_); (case side1 => exact zz31 HO_7); (case side2 => exact zz33 HO_7); rintro e w66 ⟨rfl, hb⟩; replace HO_5 := Aside0.mk (Kd.R_below (zz22 HO_5) hb); replace HO_7 := Aside0.mk (Kd.R_below (zz22 HO_7) hb); replace HB := Aside0.mk (below_step zz3 hb); clear hb))
                  go_ret
                  exact ⟨zz13, zz3⟩
                 ·replace c63 := Bool.eq_false_iff.mpr c63
                  subst c63
                  have H1 : (some true) = some r := by rw [if_neg (show ¬ (false = true) by decide)] at H; exact H
                  clear H
                  have H := H1
                  clear H1
                  obtain rfl := Option.some.inj H
                  obtain ⟨Ao67, co67, eo67⟩ := Kd.R_slice HO_7.out
                  subst eo67
                  go_wp2_with (first | (refine gc (some 104) Tryz.func10 #[.slice Ao67 t611.length co67] ?_; (with_reducible refine (impl_SetOk.calls k4 _ _ t611 true _ ?side1 ?side2 A42.out).mono ?_); (case side1 => exact zz31 HO_7); (case side2 => exact zz33 HO_7); rintro e w68 ⟨rfl, hb⟩; refine ⟨_, rfl, ?_⟩; replace HO_5 := Aside0.mk (Kd.R_below (zz22 HO_5) hb); replace HO_7 := Aside0.mk (Kd.R_below (zz22 HO_7) hb); replace HB := Aside0.mk (below_step zz3 hb); clear hb) | (go_at_call 11; (with_reducible refine (impl_SetHas.calls k4 _ _ t611 t622 t633 _ ?side1 ?side2 A44.out).mono ?_); (case side1 => exact zz31 HO_7); (case side2 => exact zz33 HO_7); rintro e w69 ⟨rfl, hb⟩; replace HO_5 := Aside0.mk (Kd.R_below (zz22 HO_5) hb); replace HO_7 := Aside0.mk (Kd.R_below (zz22 HO_7) hb); replace HB := Aside0.mk (below_step zz3 hb); clear hb))
                  go_ret
                  exact ⟨zz13, zz3⟩
                ·rw [if_neg c62] at H
                 have c62b0 : (t633 == false) = false := by simpa using c62
                 (try (have c62b1 : decide (t633 = false) = false := by simpa using c62))
                 (try (have c62b2 : (t633 == false) = false := by simpa using c62))
                 (try (have c62b3 : ¬ (t633 = false) := by simpa using c62))
                 clear c62
                 obtain rfl := Option.some.inj H
                 obtain ⟨Ao70, co70, eo70⟩ := Kd.R_slice HO_7.out
                 subst eo70
                 go_wp2_with (first | (refine gc (some 104) Tryz.func10 #[.slice Ao70 t611.length co70] ?_; (with_reducible refine (impl_SetOk.calls k4 _ _ t611 true _ ?side1 ?side2 A42.out).mono ?_); (case side1 => exact zz31 HO_7); (case side2 => exact zz33 HO_7); rintro e w71 ⟨rfl, hb⟩; refine ⟨_, rfl, ?_⟩; replace HO_5 := Aside0.mk (Kd.R_below (zz22 HO_5) hb); replace HO_7 := Aside0.mk (Kd.R_below (zz22 HO_7) hb); replace HB := Aside0.mk (below_step zz3 hb); clear hb) | (go_at_call 11; (with_reducible refine (impl_SetHas.calls k4 _ _ t611 t622 t633 _ ?side1 ?side2 A44.out).mono ?_); (case side1 => exact zz31 HO_7); (case side2 => exact zz33 HO_7); rintro e w72 ⟨rfl, hb⟩; replace HO_5 := Aside0.mk (Kd.R_below (zz22 HO_5) hb); replace HO_7 := Aside0.mk (Kd.R_below (zz22 HO_7) hb); replace HB := Aside0.mk (below_step zz3 hb); clear hb))
                 go_ret
                 exact ⟨zz13, zz3⟩
              ·by_cases c73 : (t633 == false) = true
               ·rw [if_pos c73] at H
                have c73b0 : (t633 == false) = true := c73
                (try (have c73b1 : decide (t633 = false) = true := by simpa using c73))
                (try (have c73b2 : (t633 == false) = true := by simpa using c73))
                clear c73
                by_cases c74 : x14_4 = true
                ·subst c74
                 have H1 : (some (x13_3 == 4294967296)) = some r := by rw [if_pos rfl] at H; exact H
                 clear H
                 have H := H1
                 clear H1
                 obtain rfl := Option.some.inj H
                 obtain ⟨Ao75, co75, eo75⟩ := Kd.R_slice HO_7.out
                 subst eo75
                 go_wp2_with (first | (refine gc (some 104) Tryz.func10 #[.slice Ao75 t611.length co75] ?_; (with_reducible refine (impl_SetOk.calls k4 _ _ t611 true _ ?side1 ?side2 A42.out).mono ?_); (case side1 => exact zz31 HO_7); (case side2 => exact zz33 HO_7); rintro e w76 ⟨rfl, hb⟩; refine ⟨_, rfl, ?_⟩; replace HO_5 := Aside0.mk (Kd.R_below (zz22 HO_5) hb); replace HO_7 := Aside0.mk (Kd.R_below (zz22 HO_7) hb); replace HB := Aside0.mk (below_step zz3 hb); clear hb) | (go_at_call 11; (with_reducible refine (impl_SetHas.calls k4 _ _ t611 t622 t633 _ ?side1 ?side2 A44.out).mono ?_); (case side1 => exact zz31 HO_7); (case side2 => exact zz33 HO_7); rintro e w77 ⟨rfl, hb⟩; replace HO_5 := Aside0.mk (Kd.R_below (zz22 HO_5) hb); replace HO_7 := Aside0.mk (Kd.R_below (zz22 HO_7) hb); replace HB := Aside0.mk (below_step zz3 hb); clear hb))
                 go_ret
                 exact ⟨zz13, zz3⟩
                ·replace c74 := Bool.eq_false_iff.mpr c74
                 subst c74
                 have H1 : (some true) = some r := by rw [if_neg (show ¬ (false = true) by decide)] at H; exact H
                 clear H
                 have H := H1
                 clear H1
                 obtain rfl := Option.some.inj H
                 obtain ⟨Ao78, co78, eo78⟩ := Kd.R_slice HO_7.out
                 subst eo78
                 go_wp2_with (first | (refine gc (some 104) Tryz.func10 #[.slice Ao78 t611.length co78] ?_; (with_reducible refine (impl_SetOk.calls k4 _ _ t611 true _ ?side1 ?side2 A42.out).mono ?_); (case side1 => exact zz31 HO_7); (case side2 => exact zz33 HO_7); rintro e w79 ⟨rfl, hb⟩; refine ⟨_, rfl, ?_⟩; replace HO_5 := Aside0.mk (Kd.R_below (zz22 HO_5) hb); replace HO_7 := Aside0.mk (Kd.R_below (zz22 HO_7) hb); replace HB := Aside0.mk (below_step zz3 hb); clear hb) | (go_at_call 11; (with_reducible refine (impl_SetHas.calls k4 _ _ t611 t622 t633 _ ?side1 ?side2 A44.out).mono ?_); (case side1 => exact zz31 HO_7); (case side2 => exact zz33 HO_7); rintro e w80 ⟨rfl, hb⟩; replace HO_5 := Aside0.mk (Kd.R_below (zz22 HO_5) hb); replace HO_7 := Aside0.mk (Kd.R_below (zz22 HO_7) hb); replace HB := Aside0.mk (below_step zz3 hb); clear hb))
                 go_ret
                 exact ⟨zz13, zz3⟩
               ·rw [if_neg c73] at H
                have c73b0 : (t633 == false) = false := by simpa using c73
                (try (have c73b1 : decide (t633 = false) = false := by simpa using c73))
                (try (have c73b2 : (t633 == false) = false := by simpa using c73))
                (try (have c73b3 : ¬ (t633 = false) := by simpa using c73))
                clear c73
                obtain rfl := Option.some.inj H
                obtain ⟨Ao81, co81, eo81⟩ := Kd.R_slice HO_7.out
                subst eo81
                go_wp2_with (first | (refine gc (some 104) Tryz.func10 #[.slice Ao81 t611.length co81] ?_; (with_reducible refine (impl_SetOk.calls k4 _ _ t611 true _ ?side1 ?side2 A42.out).mono ?_); (case side1 => exact zz31 HO_7); (case side2 => exact zz33 HO_7); rintro e w82 ⟨rfl, hb⟩; refine ⟨_, rfl, ?_⟩; replace HO_5 := Aside0.mk (Kd.R_below (zz22 HO_5) hb); replace HO_7 := Aside0.mk (Kd.R_below (zz22 HO_7) hb); replace HB := Aside0.mk (below_step zz3 hb); clear hb) | (go_at_call 11; (with_reducible refine (impl_SetHas.calls k4 _ _ t611 t622 t633 _ ?side1 ?side2 A44.out).mono ?_); (case side1 => exact zz31 HO_7); (case side2 => exact zz33 HO_7); rintro e w83 ⟨rfl, hb⟩; replace HO_5 := Aside0.mk (Kd.R_below (zz22 HO_5) hb); replace HO_7 := Aside0.mk (Kd.R_below (zz22 HO_7) hb); replace HB := Aside0.mk (below_step zz3 hb); clear hb))
                go_ret
                exact ⟨zz13, zz3⟩
             ·replace c43 := Bool.eq_false_iff.mpr c43
              subst c43
              have H1 : (some false) = some r := by rw [if_neg (show ¬ (false = true) by decide)] at H; exact H
              clear H
              have H := H1
              clear H1
              obtain rfl := Option.some.inj H
              obtain ⟨Ao84, co84, eo84⟩ := Kd.R_slice HO_7.out
              subst eo84
              go_wp2_with (first | (refine gc (some 104) Tryz.func10 #[.slice Ao84 t611.length co84] ?_; (with_reducible refine (impl_SetOk.calls k4 _ _ t611 false _ ?side1 ?side2 A42.out).mono ?_); (case side1 => exact zz31 HO_7); (case side2 => exact zz33 HO_7); rintro e w85 ⟨rfl, hb⟩; refine ⟨_, rfl, ?_⟩; replace HO_5 := Aside0.mk (Kd.R_below (zz22 HO_5) hb); replace HO_7 := Aside0.mk (Kd.R_below (zz22 HO_7) hb); replace HB := Aside0.mk (below_step zz3 hb); clear hb))
              go_ret
              exact ⟨zz13, zz3⟩
def laws_FnWaysTo.Pure : Prop := ∀ (l0 : List Int) (l1 : List Int), l0.length ≤ maxLen → l0.length * 1 ≤ 140737488351232 → (∀ x ∈ l0, (Lit.int .u8 x).wf = true) → l1.length ≤ maxLen → l1.length * 1 ≤ 140737488351232 → (∀ x ∈ l1, (Lit.int .u8 x).wf = true) → ∃ k, laws_FnWaysTo.f k l0 l1 = some true
theorem laws_FnWaysTo.walk (P : laws_FnWaysTo.Pure) (a0 : Option Addr) (len0 cap0 : Nat) (z0 : List Int) (a1 : Option Addr) (len1 cap1 : Nat) (z1 : List Int) (w : World) (w0 : (a0 = none ∧ len0 = 0 ∧ cap0 = 0 ∧ z0 = []) ∨ ∃ x, a0 = some x ∧ len0 ≤ cap0 ∧ cap0 ≤ maxLen ∧ z0.length = cap0 ∧ (∀ i, i < z0.length → w.cell? (x.add i) = some (.int .u8 (z0.getD i 0))) ∧ ∀ n ∈ z0, (Lit.int .u8 n).wf = true) (y0 : len0 * 1 ≤ 140737488351232) (w1 : (a1 = none ∧ len1 = 0 ∧ cap1 = 0 ∧ z1 = []) ∨ ∃ x, a1 = some x ∧ len1 ≤ cap1 ∧ cap1 ≤ maxLen ∧ z1.length = cap1 ∧ (∀ i, i < z1.length → w.cell? (x.add i) = some (.int .u8 (z1.getD i 0))) ∧ ∀ n ∈ z1, (Lit.int .u8 n).wf = true) (y1 : len1 * 1 ≤ 140737488351232) :
  Calls Tryz.prog 3 #[.slice a0 len0 cap0, .slice a1 len1 cap1] w fun e w' => e = .returned (.bool true) ∧ Below w.heap.size w w' := by
 obtain ⟨l0, rfl, hr0, hm0, hw0, hc0⟩ := ReadsInt.ofRowC w0
 obtain ⟨l1, rfl, hr1, hm1, hw1, hc1⟩ := ReadsInt.ofRowC w1
 obtain ⟨k, h⟩ := P l0 l1 hm0 y0 hw0 hm1 y1 hw1
 refine (laws_FnWaysTo.calls k _ _ l0 _ _ l1 true w (Kd.C_of_reads (d := (0 : Int)) (h1 := fun _ => rfl) hr0) hc0 (Kd.C_of_reads (d := (0 : Int)) (h1 := fun _ => rfl) hr1) hc1 h).mono ?_
 rintro e w' ⟨rfl, hd⟩
 exact ⟨rfl, hd⟩
end Go.Proofs.YthkjkmgbdahggaaGreat.PY
