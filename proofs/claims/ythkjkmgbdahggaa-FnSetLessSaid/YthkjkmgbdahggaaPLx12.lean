/- A text printed by this session's wip/myprint.py over the kit's print: contracts of functions of the given program, each at what its Lean function says. -/
import Derived.Test.YthkjkmgbdahggaaPLx0
import Derived.Test.YthkjkmgbdahggaaPLx7
import Derived.Test.YthkjkmgbdahggaaPLx8
import Derived.Test.YthkjkmgbdahggaaPLx9
import Derived.Test.YthkjkmgbdahggaaPLx10
import Derived.Test.YthkjkmgbdahggaaPLx11
namespace Go.Proofs.Ythkjkmgbdahggaa.PL
open Go.RowKit Go.Proofs.YthkjkmgbdahggaaW.PrintWords Go.Proofs.YthkjkmgbdahggaaW.PrintLast Go.Proofs.YthkjkmgbdahggaaW.PrintMore Go.Proofs.Ythkjkmgbdahggaa.Sq
attribute [local go_sem] max2_int min2_int max_two min_two max_three min_three max_four min_four   -- for this text's walks alone
set_option linter.unusedVariables false
set_option linter.unusedSimpArgs false
def spec_SetOf.f (k : Nat) (l0 : List (S40)) : Option ((List (S40)) × Bool) := (spec_l2Blocks.f k l0).bind fun t374 => (if t374 = true then ((spec_l2Spans.f k l0).bind fun t375 => ((spec_l2Cover.f k t375).bind fun t378 => ((spec_l2Room.f t378).bind fun bt381 => (some (bt381.1, bt381.2))))) else (some ((([] : List (S40))), false)))
set_option maxHeartbeats 8000000 in
set_option maxRecDepth 100000 in
theorem spec_SetOf.calls (k : Nat) (A0 : Option Addr) (c0 : Nat) (l0 : List (S40)) (r1 : List (S40)) (r2 : Bool) (w : World) (hr0 : Kd.C k40 w A0 l0.length l0) (hc0 : l0.length ≤ c0) (h : spec_SetOf.f k l0 = some (r1, r2)) :
  Calls Try.prog 22 #[.slice A0 l0.length c0] w fun e w' => ∃ v0_ : Value, e = .returned (.tuple #[v0_, .bool r2]) ∧ Kd.R k40 40 w' w.heap.size (fun _ => True) v0_ r1 ∧ Below w.heap.size w w' := by
 have HR0 := Aside0.mk hr0
 have HC0 := Aside0.mk hc0
 clear hr0 hc0
 have HB := Aside0.mk (Below.refl w.heap.size w)
 have H : ((spec_l2Blocks.f k l0).bind fun t374 => (if t374 = true then ((spec_l2Spans.f k l0).bind fun t375 => ((spec_l2Cover.f k t375).bind fun t378 => ((spec_l2Room.f t378).bind fun bt381 => (some (bt381.1, bt381.2))))) else (some ((([] : List (S40))), false)))) = some (r1, r2) := h
 clear h
 replace H := bd H
 obtain ⟨t374, A2, H⟩ := H
 replace H : (if t374 = true then ((spec_l2Spans.f k l0).bind fun t375 => ((spec_l2Cover.f k t375).bind fun t378 => ((spec_l2Room.f t378).bind fun bt381 => (some (bt381.1, bt381.2))))) else (some ((([] : List (S40))), false))) = some (r1, r2) := H
 by_cases c3 : t374 = true
 ·subst c3
  have H1 : ((spec_l2Spans.f k l0).bind fun t375 => ((spec_l2Cover.f k t375).bind fun t378 => ((spec_l2Room.f t378).bind fun bt381 => (some (bt381.1, bt381.2))))) = some (r1, r2) := by rw [if_pos rfl] at H; exact H
  clear H
  have H := H1
  clear H1
  replace H := bd H
  obtain ⟨t375, A4, H⟩ := H
  replace H : ((spec_l2Cover.f k t375).bind fun t378 => ((spec_l2Room.f t378).bind fun bt381 => (some (bt381.1, bt381.2)))) = some (r1, r2) := H
  replace H := bd H
  obtain ⟨t378, A5, H⟩ := H
  replace H : ((spec_l2Room.f t378).bind fun bt381 => (some (bt381.1, bt381.2))) = some (r1, r2) := H
  replace H := bd H
  obtain ⟨⟨t381, t384⟩, A6, H⟩ := H
  replace H : (some (t381, t384)) = some (r1, r2) := H
  simp only [Option.some.injEq, Prod.mk.injEq] at H
  obtain ⟨rfl, rfl⟩ := H
  go_enter Try.func22, Try.ntmps22
  go_wp2_with (first | (refine gc (some 5) Try.func65 #[.slice A0 l0.length c0] ?_; (with_reducible refine (spec_l2Blocks.calls k _ _ l0 true _ ?side1 ?side2 A2.out).mono ?_); (case side1 => exact zz9 HR0); (case side2 => exact HC0.out); rintro e w7 ⟨rfl, hb⟩; refine ⟨_, rfl, ?_⟩; replace HB := Aside0.mk (below_step zz5 hb); clear hb) | (refine gc (some 9) Try.func67 #[.slice A0 l0.length c0] ?_; (with_reducible refine (spec_l2Spans.calls k _ _ l0 t375 _ ?side1 ?side2 A4.out).mono ?_); (case side1 => exact zz22 HR0); (case side2 => exact HC0.out); rintro e w8 ⟨v376, rfl, ho0, hb⟩; refine ⟨_, rfl, ?_⟩; have HO377 := Aside0.mk (Kd.R_lower ho0 (below_size zz5)); replace HB := Aside0.mk (below_step zz5 hb); clear hb ho0; obtain ⟨Ao9, co9, eo9⟩ := Kd.R_slice HO377.out; subst eo9) | (refine gc (some 10) Try.func49 #[.slice Ao9 t375.length co9] ?_; (with_reducible refine (spec_l2Cover.calls k _ _ t375 t378 _ ?side1 ?side2 A5.out).mono ?_); (case side1 => exact zz20 HO377); (case side2 => exact zz23 HO377); rintro e w10 ⟨v379, rfl, ho0, hb⟩; refine ⟨_, rfl, ?_⟩; replace HO377 := Aside0.mk (Kd.R_below (zz12 HO377) hb); have HO380 := Aside0.mk (Kd.R_lower ho0 (below_size zz5)); replace HB := Aside0.mk (below_step zz5 hb); clear hb ho0; obtain ⟨Ao11, co11, eo11⟩ := Kd.R_slice HO380.out; subst eo11) | (refine gc (some 11) Try.func66 #[.slice Ao11 t378.length co11] ?_; (with_reducible refine (spec_l2Room.calls (fun k_ => some k_ = (.slice Ao11 t378.length co11 : Value).ownBlock) (.slice Ao11 t378.length co11) t378 t381 t384 w _ ?side1 ?side2 A6.out).mono ?_); (case side1 => exact zz5); (case side2 => exact Kd.R_tight rfl HO380.out); rintro e w12 ⟨v382, rfl, ho0, hb, hkp⟩; refine ⟨_, rfl, ?_⟩; replace HO377 := Aside0.mk (Kd.R_mono (ok' := fun k_ => True) (Kd.R_keptB ((Kd.R_apart' HO377.out (Kd.R_typed HO380.out) (by decide))) hkp (fun k_ hk_ hs_ => (hk_.2) hs_)) (fun k_ hk_ => trivial)); have HO383 := Aside0.mk (Kd.R_mono (ok' := fun k_ => True) ho0 (fun k_ hk_ => trivial)); replace HB := Aside0.mk hb; clear HO380 hb hkp ho0))
  go_ret2
  exact ⟨_, zz8, zz12 HO383, zz5⟩
 ·replace c3 := Bool.eq_false_iff.mpr c3
  subst c3
  have H1 : (some ((([] : List (S40))), false)) = some (r1, r2) := by rw [if_neg (show ¬ (false = true) by decide)] at H; exact H
  clear H
  have H := H1
  clear H1
  obtain ⟨y385, hy385⟩ : ∃ y_ : List (S40), y_ = (([] : List (S40))) := ⟨_, rfl⟩
  replace H : (some (y385, false)) = some (r1, r2) := by first | (rw [hy385]; with_reducible exact H) | (have H2_ := (Option.bind_some _ _).symm.trans H; rw [hy385]; with_reducible exact H2_) | (have H2_ := (Option.bind_some _ _).symm.trans H; with_reducible exact H2_) | with_reducible exact H | (rw [hy385]; exact H) | exact H
  have Ny385 := Aside0.mk hy385
  clear hy385
  simp only [Option.some.injEq, Prod.mk.injEq] at H
  obtain ⟨rfl, rfl⟩ := H
  go_enter Try.func22, Try.ntmps22
  go_wp2_with (first | (refine gc (some 5) Try.func65 #[.slice A0 l0.length c0] ?_; (with_reducible refine (spec_l2Blocks.calls k _ _ l0 false _ ?side1 ?side2 A2.out).mono ?_); (case side1 => exact zz9 HR0); (case side2 => exact HC0.out); rintro e w13 ⟨rfl, hb⟩; refine ⟨_, rfl, ?_⟩; replace HB := Aside0.mk (below_step zz5 hb); clear hb) | (refine gt 7 ?_; refine rl k40 40 7 ([] : List (S40)) [] ?hp ?_; (case hp => exact zz34); intro v386 w14 ho15 hb hg_ hnew_; clear hg_ hnew_; (first | rw [← Ny385.out] at ho15 | (simp only [Int.reduceToNat] at ho15; rw [← Ny385.out] at ho15)); have HO387 := Aside0.mk (Kd.R_lower ho15 (below_size zz5)); replace HB := Aside0.mk (below_step zz5 hb); clear hb ho15))
  go_ret2
  exact ⟨_, zz8, zz12 HO387, zz5⟩
def spec_l12Set.f (k : Nat) (s0_0 : List Int) (s0_1 : Int) : Option ((List (S40)) × Int) := (spec_l12Blocks.f k s0_0 s0_1).bind fun bt388 => ((spec_SetOf.f k bt388.1).bind fun bt392 => (if bt392.2 = true then (some (bt392.1, bt388.2)) else (some ((([] : List (S40))), bt388.2))))
set_option maxHeartbeats 8000000 in
set_option maxRecDepth 100000 in
theorem spec_l12Set.calls (k : Nat) (g : Nat) (s0_0 : List Int) (s0_1 : Int) (r1 : List (S40)) (r2 : Int) (w0 w : World) (hI : IsS103 w0 w g s0_0 s0_1) (hB : Below w0.heap.size w0 w) (h : spec_l12Set.f k s0_0 s0_1 = some (r1, r2)) :
  Calls Try.prog 96 #[.pointer (some ⟨g, 0, none⟩)] w fun e w' => ∃ v0_ : Value, e = .returned (v0_) ∧ Kd.R k40 40 w' w.heap.size (fun _ => True) v0_ r1 ∧ IsS103 w0 w' g s0_0 r2 ∧ Below w0.heap.size w0 w' ∧ KeepBut w w' g none := by
 have HI0 := Aside0.mk hI
 have HK := Aside0.mk (KeepBut.refl w g none)
 have HL := Aside0.mk hB.size
 clear hI
 have HW0 := Aside0.mk hB.size
 have HB := Aside0.mk hB
 clear hB
 have H : ((spec_l12Blocks.f k s0_0 s0_1).bind fun bt388 => ((spec_SetOf.f k bt388.1).bind fun bt392 => (if bt392.2 = true then (some (bt392.1, bt388.2)) else (some ((([] : List (S40))), bt388.2))))) = some (r1, r2) := h
 clear h
 replace H := bd H
 obtain ⟨⟨t388, t391⟩, A2, H⟩ := H
 replace H : ((spec_SetOf.f k t388).bind fun bt392 => (if bt392.2 = true then (some (bt392.1, t391)) else (some ((([] : List (S40))), t391)))) = some (r1, r2) := H
 replace H := bd H
 obtain ⟨⟨t392, t393⟩, A3, H⟩ := H
 replace H : (if t393 = true then (some (t392, t391)) else (some ((([] : List (S40))), t391))) = some (r1, r2) := H
 by_cases c4 : t393 = true
 ·subst c4
  have H1 : (some (t392, t391)) = some (r1, r2) := by rw [if_pos rfl] at H; exact H
  clear H
  have H := H1
  clear H1
  simp only [Option.some.injEq, Prod.mk.injEq] at H
  obtain ⟨rfl, rfl⟩ := H
  go_enter Try.func96, Try.ntmps96
  go_wp2_with (first | (refine gc (some 7) Try.func62 #[.pointer (some ⟨g, 0, none⟩)] ?_; (with_reducible refine (spec_l12Blocks.calls k g s0_0 s0_1 t388 t391 w0 _ ?side1 ?side2 A2.out).mono ?_); (case side1 => exact zz27 HI0); (case side2 => exact zz29 HI0); rintro e w5 ⟨v389, rfl, ho0, hi, hb, hk⟩; refine ⟨_, rfl, ?_⟩; have HO390 := Aside0.mk (Kd.R_lower ho0 (keep_size (w := w) (g := g) (row := none) zz28)); replace HK := Aside0.mk (KeepBut.trans zz28 hk (.inl rfl)); replace HB := Aside0.mk hb; replace HI0 := Aside0.mk hi; clear hb hk hi ho0; obtain ⟨Ao6, co6, eo6⟩ := Kd.R_slice HO390.out; subst eo6) | (refine gc (some 8) Try.func22 #[.slice Ao6 t388.length co6] ?_; (with_reducible refine (spec_SetOf.calls k _ _ t388 t392 true _ ?side1 ?side2 A3.out).mono ?_); (case side1 => exact zz20 HO390); (case side2 => exact zz23 HO390); rintro e w7 ⟨v394, rfl, ho0, hb⟩; refine ⟨_, rfl, ?_⟩; have HO395 := Aside0.mk (Kd.R_lower (Kd.R_new' ho0 (Kd.R_lt (zz12 HO390))) (keep_size (w := w) (g := g) (row := none) zz28)); replace HO390 := Aside0.mk (Kd.R_elder' (zz12 HO390) (Kd.R_base ho0) hb); replace HK := Aside0.mk (KeepBut.trans zz28 (KeepBut.of_below hb g none) (.inl rfl)); replace HB := Aside0.mk (below_step (zz29 HI0) hb); replace HI0 := Aside0.mk (IsS103.below (zz27 HI0) hb); clear hb ho0))
  go_ret
  exact ⟨_, zz8, zz19 HO395, zz27 HI0, zz29 HI0, zz28⟩
 ·replace c4 := Bool.eq_false_iff.mpr c4
  subst c4
  have H1 : (some ((([] : List (S40))), t391)) = some (r1, r2) := by rw [if_neg (show ¬ (false = true) by decide)] at H; exact H
  clear H
  have H := H1
  clear H1
  obtain ⟨y396, hy396⟩ : ∃ y_ : List (S40), y_ = (([] : List (S40))) := ⟨_, rfl⟩
  replace H : (some (y396, t391)) = some (r1, r2) := by first | (rw [hy396]; with_reducible exact H) | (have H2_ := (Option.bind_some _ _).symm.trans H; rw [hy396]; with_reducible exact H2_) | (have H2_ := (Option.bind_some _ _).symm.trans H; with_reducible exact H2_) | with_reducible exact H | (rw [hy396]; exact H) | exact H
  have Ny396 := Aside0.mk hy396
  clear hy396
  simp only [Option.some.injEq, Prod.mk.injEq] at H
  obtain ⟨rfl, rfl⟩ := H
  go_enter Try.func96, Try.ntmps96
  go_wp2_with (first | (refine gc (some 7) Try.func62 #[.pointer (some ⟨g, 0, none⟩)] ?_; (with_reducible refine (spec_l12Blocks.calls k g s0_0 s0_1 t388 t391 w0 _ ?side1 ?side2 A2.out).mono ?_); (case side1 => exact zz27 HI0); (case side2 => exact zz29 HI0); rintro e w8 ⟨v389, rfl, ho0, hi, hb, hk⟩; refine ⟨_, rfl, ?_⟩; have HO390 := Aside0.mk (Kd.R_lower ho0 (keep_size (w := w) (g := g) (row := none) zz28)); replace HK := Aside0.mk (KeepBut.trans zz28 hk (.inl rfl)); replace HB := Aside0.mk hb; replace HI0 := Aside0.mk hi; clear hb hk hi ho0; obtain ⟨Ao9, co9, eo9⟩ := Kd.R_slice HO390.out; subst eo9) | (refine gc (some 8) Try.func22 #[.slice Ao9 t388.length co9] ?_; (with_reducible refine (spec_SetOf.calls k _ _ t388 t392 false _ ?side1 ?side2 A3.out).mono ?_); (case side1 => exact zz20 HO390); (case side2 => exact zz23 HO390); rintro e w10 ⟨v394, rfl, ho0, hb⟩; refine ⟨_, rfl, ?_⟩; have HO395 := Aside0.mk (Kd.R_lower (Kd.R_new' ho0 (Kd.R_lt (zz12 HO390))) (keep_size (w := w) (g := g) (row := none) zz28)); replace HO390 := Aside0.mk (Kd.R_elder' (zz12 HO390) (Kd.R_base ho0) hb); replace HK := Aside0.mk (KeepBut.trans zz28 (KeepBut.of_below hb g none) (.inl rfl)); replace HB := Aside0.mk (below_step (zz29 HI0) hb); replace HI0 := Aside0.mk (IsS103.below (zz27 HI0) hb); clear hb ho0) | (refine gt 13 ?_; refine rl k40 40 13 ([] : List (S40)) [] ?hp ?_; (case hp => exact zz34); intro v397 w11 ho12 hb hg_ hnew_; clear hg_ hnew_; (first | rw [← Ny396.out] at ho12 | (simp only [Int.reduceToNat] at ho12; rw [← Ny396.out] at ho12)); have HO398 := Aside0.mk (Kd.R_lower (Kd.R_new' (Kd.R_new' ho12 (Kd.R_lt (zz12 HO390))) (Kd.R_lt (zz12 HO395))) (keep_size (w := w) (g := g) (row := none) zz28)); replace HO390 := Aside0.mk (Kd.R_elder' (zz12 HO390) (Kd.R_base ho12) hb); replace HO395 := Aside0.mk (Kd.R_elder' (zz12 HO395) (Kd.R_base ho12) hb); replace HK := Aside0.mk (KeepBut.trans zz28 (KeepBut.of_below hb g none) (.inl rfl)); replace HB := Aside0.mk (below_step (zz29 HI0) hb); replace HI0 := Aside0.mk (IsS103.below (zz27 HI0) hb); clear hb ho12))
  go_ret
  exact ⟨_, zz8, zz19 HO398, zz27 HI0, zz29 HI0, zz28⟩
def spec_l12AnySet.f (k : Nat) (s0_0 : List Int) (s0_1 : Int) : Option ((List (S40)) × Int) := (spec_l1Rd_pick.f k s0_0 s0_1 8).bind fun bt399 => (if bt399.1 = 0 then ((spec_l12Blocks.f k s0_0 bt399.2).bind fun bt401 => (some (bt401.1, bt401.2))) else (if bt399.1 = 1 then ((spec_l12Set.f k s0_0 bt399.2).bind fun bt405 => ((spec_l12AnyBlock.f k s0_0 bt405.2).bind fun bt409 => (if bt405.1.length < 8796093022208 then (some ((bt405.1 ++ [(⟨bt409.1, bt409.2.1⟩ : S40)]), bt409.2.2)) else (none)))) else ((spec_l12Set.f k s0_0 bt399.2).bind fun bt415 => (some (bt415.1, bt415.2)))))
set_option maxHeartbeats 8000000 in
set_option maxRecDepth 100000 in
theorem spec_l12AnySet.calls (k : Nat) (g : Nat) (s0_0 : List Int) (s0_1 : Int) (r1 : List (S40)) (r2 : Int) (w0 w : World) (hI : IsS103 w0 w g s0_0 s0_1) (hB : Below w0.heap.size w0 w) (h : spec_l12AnySet.f k s0_0 s0_1 = some (r1, r2)) :
  Calls Try.prog 72 #[.pointer (some ⟨g, 0, none⟩)] w fun e w' => ∃ v0_ : Value, e = .returned (v0_) ∧ Kd.R k40 40 w' w.heap.size (fun _ => True) v0_ r1 ∧ IsS103 w0 w' g s0_0 r2 ∧ Below w0.heap.size w0 w' ∧ KeepBut w w' g none := by
 have HI0 := Aside0.mk hI
 have HK := Aside0.mk (KeepBut.refl w g none)
 have HL := Aside0.mk hB.size
 clear hI
 have HW0 := Aside0.mk hB.size
 have HB := Aside0.mk hB
 clear hB
 have H : ((spec_l1Rd_pick.f k s0_0 s0_1 8).bind fun bt399 => (if bt399.1 = 0 then ((spec_l12Blocks.f k s0_0 bt399.2).bind fun bt401 => (some (bt401.1, bt401.2))) else (if bt399.1 = 1 then ((spec_l12Set.f k s0_0 bt399.2).bind fun bt405 => ((spec_l12AnyBlock.f k s0_0 bt405.2).bind fun bt409 => (if bt405.1.length < 8796093022208 then (some ((bt405.1 ++ [(⟨bt409.1, bt409.2.1⟩ : S40)]), bt409.2.2)) else (none)))) else ((spec_l12Set.f k s0_0 bt399.2).bind fun bt415 => (some (bt415.1, bt415.2)))))) = some (r1, r2) := h
 clear h
 replace H := bd H
 obtain ⟨⟨t399, t400⟩, A2, H⟩ := H
 replace H : (if t399 = 0 then ((spec_l12Blocks.f k s0_0 t400).bind fun bt401 => (some (bt401.1, bt401.2))) else (if t399 = 1 then ((spec_l12Set.f k s0_0 t400).bind fun bt405 => ((spec_l12AnyBlock.f k s0_0 bt405.2).bind fun bt409 => (if bt405.1.length < 8796093022208 then (some ((bt405.1 ++ [(⟨bt409.1, bt409.2.1⟩ : S40)]), bt409.2.2)) else (none)))) else ((spec_l12Set.f k s0_0 t400).bind fun bt415 => (some (bt415.1, bt415.2))))) = some (r1, r2) := H
 by_cases c3 : t399 = 0
 ·rw [if_pos c3] at H
  have c3b0 : (t399 == 0) = true := beq_iff_eq.mpr c3
  have c3b1 : (t399 != 0) = false := bne_eq_false_iff_eq.mpr c3
  clear c3
  replace H := bd H
  obtain ⟨⟨t401, t404⟩, A4, H⟩ := H
  replace H : (some (t401, t404)) = some (r1, r2) := H
  simp only [Option.some.injEq, Prod.mk.injEq] at H
  obtain ⟨rfl, rfl⟩ := H
  go_enter Try.func72, Try.ntmps72
  go_wp2_with (first | (refine gc (some 4) Try.func44 #[.pointer (some ⟨g, 0, none⟩), .int .i64 8] ?_; (with_reducible refine (spec_l1Rd_pick.calls k g s0_0 s0_1 8 t399 t400 w0 _ ?side1 ?side2 A2.out).mono ?_); (case side1 => exact zz27 HI0); (case side2 => exact zz29 HI0); rintro e w5 ⟨rfl, hi, hb, hk⟩; refine ⟨_, rfl, ?_⟩; replace HK := Aside0.mk (KeepBut.trans zz28 hk (.inl rfl)); replace HB := Aside0.mk hb; replace HI0 := Aside0.mk hi; clear hb hk hi) | (refine gc (some 8) Try.func62 #[.pointer (some ⟨g, 0, none⟩)] ?_; (with_reducible refine (spec_l12Blocks.calls k g s0_0 t400 t401 t404 w0 _ ?side1 ?side2 A4.out).mono ?_); (case side1 => exact zz27 HI0); (case side2 => exact zz29 HI0); rintro e w6 ⟨v402, rfl, ho0, hi, hb, hk⟩; refine ⟨_, rfl, ?_⟩; have HO403 := Aside0.mk (Kd.R_lower ho0 (keep_size (w := w) (g := g) (row := none) zz28)); replace HK := Aside0.mk (KeepBut.trans zz28 hk (.inl rfl)); replace HB := Aside0.mk hb; replace HI0 := Aside0.mk hi; clear hb hk hi ho0))
  go_ret
  exact ⟨_, zz8, zz12 HO403, zz27 HI0, zz29 HI0, zz28⟩
 ·rw [if_neg c3] at H
  have c3b0 : (t399 == 0) = false := beq_eq_false_iff_ne.mpr c3
  have c3b1 : (t399 != 0) = true := bne_iff_ne.mpr c3
  by_cases c7 : t399 = 1
  ·rw [if_pos c7] at H
   have c7b0 : (t399 == 1) = true := beq_iff_eq.mpr c7
   have c7b1 : (t399 != 1) = false := bne_eq_false_iff_eq.mpr c7
   clear c7
   replace H := bd H
   obtain ⟨⟨t405, t408⟩, A8, H⟩ := H
   replace H : ((spec_l12AnyBlock.f k s0_0 t408).bind fun bt409 => (if t405.length < 8796093022208 then (some ((t405 ++ [(⟨bt409.1, bt409.2.1⟩ : S40)]), bt409.2.2)) else (none))) = some (r1, r2) := H
   replace H := bd H
   obtain ⟨⟨t409, t410, t411⟩, A9, H⟩ := H
   replace H : (if t405.length < 8796093022208 then (some ((t405 ++ [(⟨t409, t410⟩ : S40)]), t411)) else (none)) = some (r1, r2) := H
   replace H := gp H
   obtain ⟨c10, H⟩ := H
   have LMc10 := Aside0.mk c10
   clear c10
   obtain ⟨y412, hy412⟩ : ∃ y_ : List (S40), y_ = (t405 ++ [(⟨t409, t410⟩ : S40)]) := ⟨_, rfl⟩
   replace H : (some (y412, t411)) = some (r1, r2) := by first | (rw [hy412]; with_reducible exact H) | (have H2_ := (Option.bind_some _ _).symm.trans H; rw [hy412]; with_reducible exact H2_) | (have H2_ := (Option.bind_some _ _).symm.trans H; with_reducible exact H2_) | with_reducible exact H | (rw [hy412]; exact H) | exact H
   have Ny412 := Aside0.mk hy412
   clear hy412
   simp only [Option.some.injEq, Prod.mk.injEq] at H
   obtain ⟨rfl, rfl⟩ := H
   go_enter Try.func72, Try.ntmps72
   go_wp2_with (first | (refine gc (some 4) Try.func44 #[.pointer (some ⟨g, 0, none⟩), .int .i64 8] ?_; (with_reducible refine (spec_l1Rd_pick.calls k g s0_0 s0_1 8 t399 t400 w0 _ ?side1 ?side2 A2.out).mono ?_); (case side1 => exact zz27 HI0); (case side2 => exact zz29 HI0); rintro e w11 ⟨rfl, hi, hb, hk⟩; refine ⟨_, rfl, ?_⟩; replace HK := Aside0.mk (KeepBut.trans zz28 hk (.inl rfl)); replace HB := Aside0.mk hb; replace HI0 := Aside0.mk hi; clear hb hk hi) | (refine gc (some 12) Try.func96 #[.pointer (some ⟨g, 0, none⟩)] ?_; (with_reducible refine (spec_l12Set.calls k g s0_0 t400 t405 t408 w0 _ ?side1 ?side2 A8.out).mono ?_); (case side1 => exact zz27 HI0); (case side2 => exact zz29 HI0); rintro e w12 ⟨v406, rfl, ho0, hi, hb, hk⟩; refine ⟨_, rfl, ?_⟩; have HO407 := Aside0.mk (Kd.R_lower ho0 (keep_size (w := w) (g := g) (row := none) zz28)); replace HK := Aside0.mk (KeepBut.trans zz28 hk (.inl rfl)); replace HB := Aside0.mk hb; replace HI0 := Aside0.mk hi; clear hb hk hi ho0) | (refine gc (some 14) Try.func63 #[.pointer (some ⟨g, 0, none⟩)] ?_; (with_reducible refine (spec_l12AnyBlock.calls k g s0_0 t408 t409 t410 t411 w0 _ ?side1 ?side2 A9.out).mono ?_); (case side1 => exact zz27 HI0); (case side2 => exact zz29 HI0); rintro e w13 ⟨rfl, hi, hb, hk⟩; refine ⟨_, rfl, ?_⟩; replace HO407 := Aside0.mk (Kd.R_mono (Kd.R_keep (IsS103.apart (show IsS103 w0 _ g s0_0 t408 from zz27 HI0) (zz12 HO407) (by decide)) hk (fun _ h => h.2)) (fun _ h => h.1)); replace HK := Aside0.mk (KeepBut.trans zz28 hk (.inl rfl)); replace HB := Aside0.mk hb; replace HI0 := Aside0.mk hi; clear hb hk hi) | ((with_reducible refine gate_builtin (b := .append) (xs := #[.tmp 12, .tmp 15]) rfl ?_); at_builtin; refine Kd.R_append k40 w.heap.size rfl (.tmp 12) (.tmp 15) 25 40 (.agg #[(.int .i64 0), (.int .i64 0)]) 16 rfl Try.underlying25 info40 rfl (by decide) (by omega) v406 t405 (⟨t409, t410⟩ : S40) [.int .i64 t409, .int .i64 t410] (fun _ => True) (fun _ => False) rfl rfl ?aP (fun _ hk => hk.elim) ?aF ?aO (Below.refl _ _) ?aS ?aL ?_; (case aP => exact k40_mkM _ _ _ (⟨t409, t410⟩ : S40)); (case aF => exact zz13); (case aO => exact zz12 HO407); (case aS => exact zz35); (case aL => exact zz3 LMc10); intro v413 w14 ho hb hg hat; rw [← Ny412.out] at ho; replace HB := Aside0.mk (below_weaken (zz29 HI0) HL.out hb); replace HI0 := Aside0.mk (IsS103.grown (zz27 HI0) hg (IsS103.own_ne HI0.out HO407.out (by decide))); replace HK := Aside0.mk (KeepBut.trans zz28 (KeepBut.of_grown hg g) (Kd.R_base2 HO407.out)); have HO414 := Aside0.mk ho; clear HO407 ho hb hg hat))
   go_ret
   exact ⟨_, zz8, zz12 HO414, zz27 HI0, zz29 HI0, zz28⟩
  ·rw [if_neg c7] at H
   have c7b0 : (t399 == 1) = false := beq_eq_false_iff_ne.mpr c7
   have c7b1 : (t399 != 1) = true := bne_iff_ne.mpr c7
   replace H := bd H
   obtain ⟨⟨t415, t418⟩, A15, H⟩ := H
   replace H : (some (t415, t418)) = some (r1, r2) := H
   simp only [Option.some.injEq, Prod.mk.injEq] at H
   obtain ⟨rfl, rfl⟩ := H
   go_enter Try.func72, Try.ntmps72
   go_wp2_with (first | (refine gc (some 4) Try.func44 #[.pointer (some ⟨g, 0, none⟩), .int .i64 8] ?_; (with_reducible refine (spec_l1Rd_pick.calls k g s0_0 s0_1 8 t399 t400 w0 _ ?side1 ?side2 A2.out).mono ?_); (case side1 => exact zz27 HI0); (case side2 => exact zz29 HI0); rintro e w16 ⟨rfl, hi, hb, hk⟩; refine ⟨_, rfl, ?_⟩; replace HK := Aside0.mk (KeepBut.trans zz28 hk (.inl rfl)); replace HB := Aside0.mk hb; replace HI0 := Aside0.mk hi; clear hb hk hi) | (refine gc (some 18) Try.func96 #[.pointer (some ⟨g, 0, none⟩)] ?_; (with_reducible refine (spec_l12Set.calls k g s0_0 t400 t415 t418 w0 _ ?side1 ?side2 A15.out).mono ?_); (case side1 => exact zz27 HI0); (case side2 => exact zz29 HI0); rintro e w17 ⟨v416, rfl, ho0, hi, hb, hk⟩; refine ⟨_, rfl, ?_⟩; have HO417 := Aside0.mk (Kd.R_lower ho0 (keep_size (w := w) (g := g) (row := none) zz28)); replace HK := Aside0.mk (KeepBut.trans zz28 hk (.inl rfl)); replace HB := Aside0.mk hb; replace HI0 := Aside0.mk hi; clear hb hk hi ho0))
   go_ret
   exact ⟨_, zz8, zz12 HO417, zz27 HI0, zz29 HI0, zz28⟩
def spec_DrawSetHas.j0 : Nat → List (S40) → Bool → List Int → Int → Option ((List (S40)) × Int)
 | 0, _, _, _, _ => none
 | k + 1, x5, x17, x422000, x422001 => if x17 = true then ((spec_l1Rd_pick.f k x422000 x422001 (x5.length : Int)).bind fun bt428 => (if 0 ≤ bt428.1 then (if bt428.1 < (x5.length : Int) then ((spec_l1Rd_pick.f k x422000 bt428.2 3).bind fun bt431 => (some (x5, wrap64 ((wrap64 (((rd_T40 x5 bt428.1).f0) + bt431.1)) - 1)))) else (none)) else (none))) else ((spec_l12AnyAddr.f k x422000 x422001).bind fun bt433 => (some (x5, bt433.1)))
def spec_DrawSetHas.f (k : Nat) (l0 : List Int) : Option ((List (S40)) × Int) := (spec_l1Open.f l0).bind fun bt419 => ((spec_l12AnySet.f k bt419.1 bt419.2).bind fun bt422 => (if (bt422.1.length : Int) > 0 then ((spec_l1Rd_pick.f k bt419.1 bt422.2 2).bind fun bt426 => (spec_DrawSetHas.j0 k bt422.1 (bt426.1 == 0) bt419.1 bt426.2)) else (spec_DrawSetHas.j0 k bt422.1 false bt419.1 bt422.2)))
def spec_DrawSetHas.T4 : Bool × List (List Nat × List Nat) := (true, [([], []), ([], []), ([], []), ([], []), ([3], [3]), ([2, 4], [2, 4]), ([1, 5], [1, 5]), ([6], [6]), ([7], [7]), ([], []), ([9, 5], [9]), ([8, 10], [8, 10]), ([11], [11]), ([0, 10, 0], [0]), ([12, 13, 0, 1, 2, 3, 4, 5, 6, 7, 8, 9, 10, 11, 12, 13], [12])])
def spec_DrawSetHas.B4 : List Nat := [0, 0, 0, 0, 8, 28, 62, 126, 254, 0, 572, 2046, 4094, 1597, 16383]
theorem spec_DrawSetHas.tab4 : rtab .any (opsOf Try.f26 4) = spec_DrawSetHas.T4 := by kernel_rfl
theorem spec_DrawSetHas.bits4 : waitsOk spec_DrawSetHas.T4.2 spec_DrawSetHas.B4 = true := by kernel_rfl
set_option maxHeartbeats 8000000 in
set_option maxRecDepth 100000 in
theorem spec_DrawSetHas.calls (k : Nat) (A0 : Option Addr) (c0 : Nat) (l0 : List Int) (r1 : List (S40)) (r2 : Int) (w : World) (hr0 : Kd.C (Kd.int .u8) w A0 l0.length l0) (hc0 : l0.length ≤ c0) (h : spec_DrawSetHas.f k l0 = some (r1, r2)) :
  Calls Try.prog 26 #[.slice A0 l0.length c0] w fun e w' => ∃ v0_ : Value, e = .returned (.tuple #[v0_, .int .i64 r2]) ∧ Kd.R k40 40 w' w.heap.size (fun _ => True) v0_ r1 ∧ Below w.heap.size w w' := by
 have HR0 := Aside0.mk hr0
 have HC0 := Aside0.mk hc0
 clear hr0 hc0
 have HB := Aside0.mk (Below.refl w.heap.size w)
 have H : ((spec_l1Open.f l0).bind fun bt419 => ((spec_l12AnySet.f k bt419.1 bt419.2).bind fun bt422 => (if (bt422.1.length : Int) > 0 then ((spec_l1Rd_pick.f k bt419.1 bt422.2 2).bind fun bt426 => (spec_DrawSetHas.j0 k bt422.1 (bt426.1 == 0) bt419.1 bt426.2)) else (spec_DrawSetHas.j0 k bt422.1 false bt419.1 bt422.2)))) = some (r1, r2) := h
 clear h
 replace H := bd H
 obtain ⟨⟨t419, t420⟩, A2, H⟩ := H
 replace H : ((spec_l12AnySet.f k t419 t420).bind fun bt422 => (if (bt422.1.length : Int) > 0 then ((spec_l1Rd_pick.f k t419 bt422.2 2).bind fun bt426 => (spec_DrawSetHas.j0 k bt422.1 (bt426.1 == 0) t419 bt426.2)) else (spec_DrawSetHas.j0 k bt422.1 false t419 bt422.2))) = some (r1, r2) := H
 replace H := bd H
 obtain ⟨⟨t422, t425⟩, A3, H⟩ := H
 replace H : (if (t422.length : Int) > 0 then ((spec_l1Rd_pick.f k t419 t425 2).bind fun bt426 => (spec_DrawSetHas.j0 k t422 (bt426.1 == 0) t419 bt426.2)) else (spec_DrawSetHas.j0 k t422 false t419 t425)) = some (r1, r2) := H
 have HC4 := Aside0.mk H
 clear H
 go_enter Try.func26, Try.ntmps26
 go_upto_region 3 with (first | (refine gc (some 7) Try.func42 #[.slice A0 l0.length c0] ?_; (with_reducible refine (spec_l1Open.calls _ _ l0 t419 t420 w _ ?side1 ?side2 ?side3 A2.out).mono ?_); (case side1 => exact zz5); (case side2 => exact HR0.out); (case side3 => exact HC0.out); rintro e w5 ⟨g421, rfl, hi, hb, hb2⟩; refine ⟨_, rfl, ?_⟩; replace HB := Aside0.mk hb; have HI421 := Aside0.mk hi; clear hb hb2 hi) | (refine gc (some 9) Try.func72 #[.pointer (some ⟨g421, 0, none⟩)] ?_; (with_reducible refine (spec_l12AnySet.calls k g421 t419 t420 t422 t425 w _ ?side1 ?side2 A3.out).mono ?_); (case side1 => exact zz27 HI421); (case side2 => exact zz29 HI421); rintro e w6 ⟨v423, rfl, ho0, hi, hb, hk⟩; refine ⟨_, rfl, ?_⟩; have HO424 := Aside0.mk (Kd.R_lower ho0 (below_size (zz29 HI421))); replace HB := Aside0.mk hb; replace HI421 := Aside0.mk hi; clear hb hk hi ho0))
 (try simp only [Act.put, List.setIfInBounds_toArray, List.set_cons_zero, List.set_cons_succ])
 go_cut [17] (fun v17 wc => ∃ (kq : Nat) (x17_3 : Bool) (x422001_3 : Int), v17 = .bool x17_3 ∧ Aside0 (spec_DrawSetHas.j0 kq t422 x17_3 t419 x422001_3 = some (r1, r2)) ∧ Aside0 (kq ≤ k) ∧ Aside0 (Kd.R k40 40 wc w.heap.size (fun _ => True) v423 t422) ∧ Aside0 (IsS103 w wc g421 t419 x422001_3) ∧ Aside0 (Below w.heap.size w wc))
 case first =>
  have H := HC4.out
  clear HC4
  by_cases c7 : (t422.length : Int) > 0
  ·rw [if_pos c7] at H
   have c7b0 : decide (0 < (t422.length : Int)) = true := decide_eq_true c7
   have c7b1 : decide (0 < t422.length) = true := decide_eq_true (by omega)
   clear c7
   (first | rw [c7b0] | (simp only [i64_w, i32_w]; rw [c7b0]) | skip)
   replace H := bd H
   obtain ⟨⟨t426, t427⟩, A8, H⟩ := H
   replace H : (spec_DrawSetHas.j0 k t422 (t426 == 0) t419 t427) = some (r1, r2) := H
   have H' := Aside0.mk H
   clear H
   obtain ⟨Ao9, co9, eo9⟩ := Kd.R_slice HO424.out
   subst eo9
   go_wp2_with (first | (go_at_call 44; (with_reducible refine (spec_l1Rd_pick.calls k g421 t419 t425 2 t426 t427 w _ ?side1 ?side2 A8.out).mono ?_); (case side1 => exact zz27 HI421); (case side2 => exact zz29 HI421); rintro e w10 ⟨rfl, hi, hb, hk⟩; replace HO424 := Aside0.mk (Kd.R_mono (Kd.R_keep (IsS103.apart (show IsS103 w _ g421 t419 t425 from zz27 HI421) (zz12 HO424) (by decide)) hk (fun _ h => h.2)) (fun _ h => h.1)); replace HB := Aside0.mk hb; replace HI421 := Aside0.mk hi; clear hb hk hi))
   go_meet
   case rel => exact ⟨_, ((t426 == 0)), (t427), zz1, H', ⟨zz26⟩, ⟨zz12 HO424⟩, ⟨zz27 HI421⟩, ⟨zz29 HI421⟩⟩
  ·rw [if_neg c7] at H
   have c7b0 : decide (0 < (t422.length : Int)) = false := decide_eq_false c7
   have c7b1 : decide (0 < t422.length) = false := decide_eq_false (by omega)
   clear c7
   (first | rw [c7b0] | (simp only [i64_w, i32_w]; rw [c7b0]) | skip)
   have H' := Aside0.mk H
   clear H
   obtain ⟨Ao11, co11, eo11⟩ := Kd.R_slice HO424.out
   subst eo11
   go_wp2
   go_meet
   case rel => exact ⟨_, (false), (t425), zz1, H', ⟨zz26⟩, ⟨zz12 HO424⟩, ⟨zz27 HI421⟩, ⟨zz29 HI421⟩⟩
 case rest =>
  clear HC4
  try clear c2
  try clear p2
  try clear c4
  try clear c7
  try clear c7b0
  try clear c7b1
  obtain ⟨kq, x17_3, x422001_3, rfl, HA, HJ3, HO_5, HI421, HB⟩ := hcut
  cases kq with
  | zero => exact absurd HA.out (by simp [spec_DrawSetHas.j0])
  | succ kj3 =>
   have H := HA.out
   clear HA
   simp only [spec_DrawSetHas.j0] at H
   by_cases c12 : x17_3 = true
   ·subst c12
    have H1 : ((spec_l1Rd_pick.f kj3 t419 x422001_3 (t422.length : Int)).bind fun bt428 => (if 0 ≤ bt428.1 then (if bt428.1 < (t422.length : Int) then ((spec_l1Rd_pick.f kj3 t419 bt428.2 3).bind fun bt431 => (some (t422, wrap64 ((wrap64 (((rd_T40 t422 bt428.1).f0) + bt431.1)) - 1)))) else (none)) else (none))) = some (r1, r2) := by rw [if_pos rfl] at H; exact H
    clear H
    have H := H1
    clear H1
    replace H := bd H
    obtain ⟨⟨t428, t429⟩, A13, H⟩ := H
    replace H : (if 0 ≤ t428 then (if t428 < (t422.length : Int) then ((spec_l1Rd_pick.f kj3 t419 t429 3).bind fun bt431 => (some (t422, wrap64 ((wrap64 (((rd_T40 t422 t428).f0) + bt431.1)) - 1)))) else (none)) else (none)) = some (r1, r2) := H
    replace H := gd H
    obtain ⟨c14b0, H⟩ := H
    replace H := gd H
    obtain ⟨c15b0, H⟩ := H
    replace H := bd H
    obtain ⟨⟨t431, t432⟩, A16, H⟩ := H
    replace H : (some (t422, wrap64 ((wrap64 (((rd_T40 t422 t428).f0) + t431)) - 1))) = some (r1, r2) := H
    simp only [Option.some.injEq, Prod.mk.injEq] at H
    obtain ⟨rfl, rfl⟩ := H
    try go_wp2
    replace HO_5 := Aside0.mk (Kd.R_drew HO_5.out)
    replace HI421 := Aside0.mk (IsS103.drew HI421.out)
    replace HB := Aside0.mk (below_drew1 HB.out)
    obtain ⟨Ao18, co18, eo18⟩ := Kd.R_slice HO_5.out
    (first | subst eo18 | (injection eo18 with f1_ f2_ f3_; have f4_ := f1_.symm; have f5_ := f3_.symm; clear f1_ f2_ f3_; subst f4_; subst f5_))
    obtain ⟨⟨ad430, e430, hx430_0, hx430_1⟩, p430, q430⟩ := wi (at_T40 (Kd.R_reads' HO_5.out).2.2 t428)
    cases e430
    refine start_ (n := 15) (S := fun w' => w'.cell? (ad430.add ((t428).toNat * 2)) = some (.int .i64 ((rd_T40 t422 t428).f0)) ∧ w'.cell? ⟨(ad430.add ((t428).toNat * 2)).block, (ad430.add ((t428).toNat * 2)).off + 1, none⟩ = some (.int .i64 ((rd_T40 t422 t428).f1))) (ds := []) (bm 15 0) (by kernel_rfl) rfl rfl ⟨hx430_0, hx430_1⟩ (fun hHeld => ?_); refine with_tabW spec_DrawSetHas.tab4 spec_DrawSetHas.bits4 (fun HT_ HW_ => ?_)
    generalize wc.drew = w17 at HO_5 HI421 HB hx430_0 hx430_1 hHeld ⊢
    refine pu 0 18 (bm 15 1) ?_
    refine pu 1 19 (bm 15 3) ?_
    refine pu 2 20 (bm 15 7) ?_
    refine pu 3 21 (bm 15 15) ?_
    refine pu 4 22 (bm 15 31) ?_
    refine pu 9 27 (bm 15 543) ?_
    refine on 5 (some 23) (bm 15 575) (fun K hK => ?_)
    refine gs Try.func44 #[.pointer (some ⟨g421, 0, none⟩), .int .i64 (t422.length : Int)] ?_
    with_reducible refine (spec_l1Rd_pick.calls kj3 g421 t419 x422001_3 (t422.length : Int) t428 t429 w _ ?side1 ?side2 A13.out).mono ?_
    (case side1 => exact zz27 HI421)
    (case side2 => exact zz29 HI421)
    rintro e w19 ⟨rfl, hi, hb, hk⟩
    have HS0_ := keep_cell hk (hHeld.1) (zz62 HI421 HO_5)
    have HS1_ := keep_cell hk (hHeld.2) (zz62 HI421 HO_5)
    refine ⟨_, rfl, ?_⟩
    replace HO_5 := Aside0.mk (Kd.R_mono (Kd.R_keep (IsS103.apart (show IsS103 w _ g421 t419 x422001_3 from zz27 HI421) (zz12 HO_5) (by decide)) hk (fun _ h => h.2)) (fun _ h => h.1))
    replace HB := Aside0.mk hb
    replace HI421 := Aside0.mk hi
    (try clear hb)
    (try clear hb2)
    (try clear hk)
    (try clear hi)
    refine hK.out _ _ ⟨HS0_, HS1_⟩ (fun hHeld => ?_)
    clear hK K
    refine nm 23 ?_
    refine pu 6 24 (bm 15 639) ?_
    refine pu 7 25 (bm 15 767) ?_
    refine tk 8 26 (bm 15 1023) ?_
    refine on 10 (some 28) (bm 15 2047) (fun K hK => ?_)
    refine gs Try.func44 #[.pointer (some ⟨g421, 0, none⟩), .int .i64 3] ?_
    with_reducible refine (spec_l1Rd_pick.calls kj3 g421 t419 t429 3 t431 t432 w _ ?side1 ?side2 A16.out).mono ?_
    (case side1 => exact zz27 HI421)
    (case side2 => exact zz29 HI421)
    rintro e w20 ⟨rfl, hi, hb, hk⟩
    have HS0_ := keep_cell hk (hHeld.1) (zz62 HI421 HO_5)
    have HS1_ := keep_cell hk (hHeld.2) (zz62 HI421 HO_5)
    refine ⟨_, rfl, ?_⟩
    replace HO_5 := Aside0.mk (Kd.R_mono (Kd.R_keep (IsS103.apart (show IsS103 w _ g421 t419 t429 from zz27 HI421) (zz12 HO_5) (by decide)) hk (fun _ h => h.2)) (fun _ h => h.1))
    replace HB := Aside0.mk hb
    replace HI421 := Aside0.mk hi
    (try clear hb)
    (try clear hb2)
    (try clear hk)
    (try clear hi)
    refine hK.out _ _ ⟨HS0_, HS1_⟩ (fun hHeld => ?_)
    clear hK K
    refine nm 28 ?_
    refine pu 11 29 (bm 15 4095) ?_
    refine pu 12 30 (bm 15 8191) ?_
    refine pu 13 2 (bm 15 16383) ?_
    refine pu 14 3 (bm 15 32767) ?_
    refine done_ (done_of HT_.out (by kernel_rfl)) ?_
    try go_wp2
    go_ret2
    exact ⟨_, zz8, zz12 HO_5, zz29 HI421⟩
   ·replace c12 := Bool.eq_false_iff.mpr c12
    subst c12
    have H1 : ((spec_l12AnyAddr.f kj3 t419 x422001_3).bind fun bt433 => (some (t422, bt433.1))) = some (r1, r2) := by rw [if_neg (show ¬ (false = true) by decide)] at H; exact H
    clear H
    have H := H1
    clear H1
    replace H := bd H
    obtain ⟨⟨t433, t434⟩, A21, H⟩ := H
    replace H : (some (t422, t433)) = some (r1, r2) := H
    simp only [Option.some.injEq, Prod.mk.injEq] at H
    obtain ⟨rfl, rfl⟩ := H
    go_wp2_with (first | (refine gc (some 33) Try.func43 #[.pointer (some ⟨g421, 0, none⟩)] ?_; (with_reducible refine (spec_l12AnyAddr.calls kj3 g421 t419 x422001_3 t433 t434 w _ ?side1 ?side2 A21.out).mono ?_); (case side1 => exact zz27 HI421); (case side2 => exact zz29 HI421); rintro e w22 ⟨rfl, hi, hb, hk⟩; refine ⟨_, rfl, ?_⟩; replace HO_5 := Aside0.mk (Kd.R_mono (Kd.R_keep (IsS103.apart (show IsS103 w _ g421 t419 x422001_3 from zz27 HI421) (zz12 HO_5) (by decide)) hk (fun _ h => h.2)) (fun _ h => h.1)); replace HB := Aside0.mk hb; replace HI421 := Aside0.mk hi; clear hb hk hi))
    go_ret2
    exact ⟨_, zz8, zz12 HO_5, zz29 HI421⟩
def spec_DrawSetBoth.f (k : Nat) (l0 : List Int) : Option ((List (S40)) × (List (S40))) := (spec_l1Open.f l0).bind fun bt435 => ((spec_l12AnySet.f k bt435.1 bt435.2).bind fun bt438 => ((spec_l12AnySet.f k bt435.1 bt438.2).bind fun bt442 => (some (bt438.1, bt442.1))))
set_option maxHeartbeats 8000000 in
set_option maxRecDepth 100000 in
theorem spec_DrawSetBoth.calls (k : Nat) (A0 : Option Addr) (c0 : Nat) (l0 : List Int) (r1 : List (S40)) (r2 : List (S40)) (w : World) (hr0 : Kd.C (Kd.int .u8) w A0 l0.length l0) (hc0 : l0.length ≤ c0) (h : spec_DrawSetBoth.f k l0 = some (r1, r2)) :
  Calls Try.prog 75 #[.slice A0 l0.length c0] w fun e w' => ∃ v0_ v1_ : Value, e = .returned (.tuple #[v0_, v1_]) ∧ Kd.R k40 40 w' w.heap.size (fun k_ => some k_ ≠ (v1_ : Value).ownBlock) v0_ r1 ∧ Kd.R k40 40 w' w.heap.size (fun k_ => some k_ ≠ (v0_ : Value).ownBlock) v1_ r2 ∧ Below w.heap.size w w' := by
 have HR0 := Aside0.mk hr0
 have HC0 := Aside0.mk hc0
 clear hr0 hc0
 have HB := Aside0.mk (Below.refl w.heap.size w)
 have H : ((spec_l1Open.f l0).bind fun bt435 => ((spec_l12AnySet.f k bt435.1 bt435.2).bind fun bt438 => ((spec_l12AnySet.f k bt435.1 bt438.2).bind fun bt442 => (some (bt438.1, bt442.1))))) = some (r1, r2) := h
 clear h
 replace H := bd H
 obtain ⟨⟨t435, t436⟩, A2, H⟩ := H
 replace H : ((spec_l12AnySet.f k t435 t436).bind fun bt438 => ((spec_l12AnySet.f k t435 bt438.2).bind fun bt442 => (some (bt438.1, bt442.1)))) = some (r1, r2) := H
 replace H := bd H
 obtain ⟨⟨t438, t441⟩, A3, H⟩ := H
 replace H : ((spec_l12AnySet.f k t435 t441).bind fun bt442 => (some (t438, bt442.1))) = some (r1, r2) := H
 replace H := bd H
 obtain ⟨⟨t442, t445⟩, A4, H⟩ := H
 replace H : (some (t438, t442)) = some (r1, r2) := H
 simp only [Option.some.injEq, Prod.mk.injEq] at H
 obtain ⟨rfl, rfl⟩ := H
 go_enter Try.func75, Try.ntmps75
 go_wp2_with (first | (refine gc (some 6) Try.func42 #[.slice A0 l0.length c0] ?_; (with_reducible refine (spec_l1Open.calls _ _ l0 t435 t436 w _ ?side1 ?side2 ?side3 A2.out).mono ?_); (case side1 => exact zz5); (case side2 => exact HR0.out); (case side3 => exact HC0.out); rintro e w5 ⟨g437, rfl, hi, hb, hb2⟩; refine ⟨_, rfl, ?_⟩; replace HB := Aside0.mk hb; have HI437 := Aside0.mk hi; clear hb hb2 hi) | (refine gc (some 8) Try.func72 #[.pointer (some ⟨g437, 0, none⟩)] ?_; (with_reducible refine (spec_l12AnySet.calls k g437 t435 t436 t438 t441 w _ ?side1 ?side2 A3.out).mono ?_); (case side1 => exact zz27 HI437); (case side2 => exact zz29 HI437); rintro e w6 ⟨v439, rfl, ho0, hi, hb, hk⟩; refine ⟨_, rfl, ?_⟩; have HO440 := Aside0.mk (Kd.R_lower ho0 (below_size (zz29 HI437))); replace HB := Aside0.mk hb; replace HI437 := Aside0.mk hi; clear hb hk hi ho0) | (refine gc (some 10) Try.func72 #[.pointer (some ⟨g437, 0, none⟩)] ?_; (with_reducible refine (spec_l12AnySet.calls k g437 t435 t441 t442 t445 w _ ?side1 ?side2 A4.out).mono ?_); (case side1 => exact zz27 HI437); (case side2 => exact zz29 HI437); rintro e w7 ⟨v443, rfl, ho0, hi, hb, hk⟩; refine ⟨_, rfl, ?_⟩; have HO444 := Aside0.mk (Kd.R_lower (Kd.R_new' ho0 (Kd.R_lt (zz12 HO440))) (below_size (zz29 HI437))); replace HO440 := Aside0.mk (Kd.R_mono (Kd.R_told (Kd.R_oldK (IsS103.apart (show IsS103 w _ g437 t435 t441 from zz27 HI437) (zz12 HO440) (by decide)) hk) (Kd.R_base ho0)) (fun _ h_ => h_.1)); replace HB := Aside0.mk hb; replace HI437 := Aside0.mk hi; clear hb hk hi ho0))
 go_ret2
 exact ⟨_, _, zz8, zz21 HO440, zz21 HO444, zz29 HI437⟩
def spec_DrawSetLess.f (k : Nat) (l0 : List Int) : Option ((List (S40)) × (List (S40))) := (spec_DrawSetBoth.f k l0).bind fun bt446 => (some (bt446.1, bt446.2))
set_option maxHeartbeats 8000000 in
set_option maxRecDepth 100000 in
theorem spec_DrawSetLess.calls (k : Nat) (A0 : Option Addr) (c0 : Nat) (l0 : List Int) (r1 : List (S40)) (r2 : List (S40)) (w : World) (hr0 : Kd.C (Kd.int .u8) w A0 l0.length l0) (hc0 : l0.length ≤ c0) (h : spec_DrawSetLess.f k l0 = some (r1, r2)) :
  Calls Try.prog 30 #[.slice A0 l0.length c0] w fun e w' => ∃ v0_ v1_ : Value, e = .returned (.tuple #[v0_, v1_]) ∧ Kd.R k40 40 w' w.heap.size (fun k_ => some k_ ≠ (v1_ : Value).ownBlock) v0_ r1 ∧ Kd.R k40 40 w' w.heap.size (fun k_ => some k_ ≠ (v0_ : Value).ownBlock) v1_ r2 ∧ Below w.heap.size w w' := by
 have HR0 := Aside0.mk hr0
 have HC0 := Aside0.mk hc0
 clear hr0 hc0
 have HB := Aside0.mk (Below.refl w.heap.size w)
 have H : ((spec_DrawSetBoth.f k l0).bind fun bt446 => (some (bt446.1, bt446.2))) = some (r1, r2) := h
 clear h
 replace H := bd H
 obtain ⟨⟨t446, t447⟩, A2, H⟩ := H
 replace H : (some (t446, t447)) = some (r1, r2) := H
 simp only [Option.some.injEq, Prod.mk.injEq] at H
 obtain ⟨rfl, rfl⟩ := H
 go_enter Try.func30, Try.ntmps30
 go_wp2_with (first | (refine gc (some 5) Try.func75 #[.slice A0 l0.length c0] ?_; (with_reducible refine (spec_DrawSetBoth.calls k _ _ l0 t446 t447 _ ?side1 ?side2 A2.out).mono ?_); (case side1 => exact zz9 HR0); (case side2 => exact HC0.out); rintro e w3 ⟨v448, v450, rfl, ho0, ho1, hb⟩; refine ⟨_, rfl, ?_⟩; have HO449 := Aside0.mk (Kd.R_lower ho0 (below_size zz5)); have HO451 := Aside0.mk (Kd.R_lower ho1 (below_size zz5)); replace HB := Aside0.mk (below_step zz5 hb); clear hb ho0 ho1))
 go_ret2
 exact ⟨_, _, zz8, zz12 HO449, zz12 HO451, zz5⟩
def impl_limited.f (l0 : List (S40)) : Option ((List (S40)) × Bool) := if (l0.length : Int) > 64 then (some (([] : List (S40)), false)) else (some (l0, true))
set_option maxHeartbeats 8000000 in
set_option maxRecDepth 100000 in
theorem impl_limited.calls (P0_ : Nat → Prop) (u9000_ : Value) (l0 : List (S40)) (r1 : List (S40)) (r2 : Bool) (w0 w : World) (hB : Below w0.heap.size w0 w) (ho0 : Kd.R k40 40 w w0.heap.size P0_ u9000_ l0) (h : impl_limited.f l0 = some (r1, r2)) :
  Calls Try.prog 64 #[u9000_] w fun e w' => ∃ v0_ : Value, e = .returned (.tuple #[v0_, .bool r2]) ∧ Kd.R k40 40 w' w0.heap.size (fun k_ => (P0_ k_ ∨ w.heap.size ≤ k_)) v0_ r1 ∧ Below w0.heap.size w0 w' ∧ Kept w w' (fun k_ => P0_ k_) := by
 have HO0 := Aside0.mk (show Kd.R k40 40 w w0.heap.size (fun k_ => (P0_ k_ ∨ w.heap.size ≤ k_)) u9000_ l0 from Kd.R_mono ho0 (fun k_ hk => (.inl hk)))
 have HK := Aside0.mk (Kept.refl w (fun k_ => P0_ k_))
 have HW0 := Aside0.mk hB.size
 have HB := Aside0.mk hB
 clear hB
 have H : (if (l0.length : Int) > 64 then (some (([] : List (S40)), false)) else (some (l0, true))) = some (r1, r2) := h
 clear h
 by_cases c2 : (l0.length : Int) > 64
 ·rw [if_pos c2] at H
  have c2b0 : decide (64 < (l0.length : Int)) = true := decide_eq_true c2
  have c2b1 : decide (64 < l0.length) = true := decide_eq_true (by omega)
  clear c2
  simp only [Option.some.injEq, Prod.mk.injEq] at H
  obtain ⟨rfl, rfl⟩ := H
  obtain ⟨Ao3, co3, eo3⟩ := Kd.R_slice HO0.out
  subst eo3
  go_enter Try.func64, Try.ntmps64
  go_wp2
  go_ret2
  exact ⟨_, zz8, zz11, zz5, zz43⟩
 ·rw [if_neg c2] at H
  have c2b0 : decide (64 < (l0.length : Int)) = false := decide_eq_false c2
  have c2b1 : decide (64 < l0.length) = false := decide_eq_false (by omega)
  clear c2
  simp only [Option.some.injEq, Prod.mk.injEq] at H
  obtain ⟨rfl, rfl⟩ := H
  obtain ⟨Ao4, co4, eo4⟩ := Kd.R_slice HO0.out
  subst eo4
  go_enter Try.func64, Try.ntmps64
  go_wp2
  go_ret2
  exact ⟨_, zz8, zz12 HO0, zz5, zz43⟩
end Go.Proofs.Ythkjkmgbdahggaa.PL
