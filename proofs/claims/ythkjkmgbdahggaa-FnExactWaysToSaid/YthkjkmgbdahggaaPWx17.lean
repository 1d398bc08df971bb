/- A text printed by this session's wip/myprint.py over the kit's print: contracts of functions of the given program, each at what its Lean function says. -/
import Derived.Test.YthkjkmgbdahggaaPWx0
import Derived.Test.YthkjkmgbdahggaaPWx1
import Derived.Test.YthkjkmgbdahggaaPWx7
import Derived.Test.YthkjkmgbdahggaaPWx15
import Derived.Test.YthkjkmgbdahggaaPWx16
namespace Go.Proofs.Ythkjkmgbdahggaa.PW
open Go.RowKit Go.Proofs.YthkjkmgbdahggaaW.PrintWords Go.Proofs.YthkjkmgbdahggaaW.PrintLast Go.Proofs.YthkjkmgbdahggaaW.PrintMore Go.Proofs.Ythkjkmgbdahggaa.Sq
attribute [local go_sem] max2_int min2_int max_two min_two max_three min_three max_four min_four   -- for this text's walks alone
set_option linter.unusedVariables false
set_option linter.unusedSimpArgs false

/-! ### laws_FnExactWaysTo: function 8 -/
mutual
def laws_FnExactWaysTo.j0 : Nat → List (S98) → Int → List (S40) → Bool → List (S95) → List (S40) → Bool → Bool → Option (Bool)
 | 0, _, _, _, _, _, _, _, _ => none
 | k + 1, x0, x1, x6, x7, x8, x9, x10, x44 => if x44 = true then (some false) else ((laws_toWayS.f k x0).bind fun t449 => ((laws_eqWayS.f k x8 t449).bind fun t452 => (if t452 = true then ((laws_markWayS.f k x8 1).bind fun bt453 => (if bt453.1 < 0 then (laws_FnExactWaysTo.j1 k x0 x1 x6 x7 x9 true) else ((laws_eqBlockS.f k x9 x6).bind fun t455 => (if t455 = true then (laws_FnExactWaysTo.j1 k x0 x1 x6 x7 x9 (x10 != x7)) else (laws_FnExactWaysTo.j1 k x0 x1 x6 x7 x9 true))))) else (some false))))
def laws_FnExactWaysTo.j1 : Nat → List (S98) → Int → List (S40) → Bool → List (S40) → Bool → Option (Bool)
 | 0, _, _, _, _, _, _ => none
 | k + 1, x0, x1, x6, x7, x9, x65 => if x65 = true then (some false) else ((laws_markBlockS.f k x9 1).bind fun bt456 => ((laws_heldBlockS.f k bt456.2 1).bind fun t458 => (if t458 < 0 then (some false) else (if t458 = bt456.1 then ((laws_toWayS.f k x0).bind fun t459 => ((impl_WaysTo.f k t459 x1).bind fun bt462 => ((laws_eqBlockS.f k bt462.1 x6).bind fun t466 => (if t466 = true then (laws_FnExactWaysTo.j2 k bt456.2 bt456.1 (bt462.2 != x7)) else (laws_FnExactWaysTo.j2 k bt456.2 bt456.1 true))))) else (some false)))))
def laws_FnExactWaysTo.j2 : Nat → List (S40) → Int → Bool → Option (Bool)
 | 0, _, _, _ => none
 | k + 1, x9, x12, x92 => if x92 = true then (some false) else ((laws_heldBlockS.f k x9 1).bind fun t467 => (if t467 < 0 then (some false) else (if t467 = x12 then (some true) else (some false))))
end
def laws_FnExactWaysTo.f (k : Nat) (l0 : List (S98)) (a1 : Int) : Option (Bool) := (laws_szWayS.f l0 1048576).bind fun t433 => (if t433 < 0 then (some true) else ((laws_toWayS.f k l0).bind fun t434 => ((spec_WaysTo.f k t434 a1).bind fun bt437 => ((laws_toWayS.f k l0).bind fun t441 => ((impl_WaysTo.f k t441 a1).bind fun bt444 => ((laws_eqBlockS.f k bt444.1 bt437.1).bind fun t448 => (if t448 = true then (laws_FnExactWaysTo.j0 k l0 a1 bt437.1 bt437.2 t441 bt444.1 bt444.2 (bt444.2 != bt437.2)) else (laws_FnExactWaysTo.j0 k l0 a1 bt437.1 bt437.2 t441 bt444.1 bt444.2 true))))))))
theorem laws_FnExactWaysTo.mono_l : ∀ k, (∀ y0 y1 y2 y3 y4 y5 y6 y7, LeO (laws_FnExactWaysTo.j0 k y0 y1 y2 y3 y4 y5 y6 y7) (laws_FnExactWaysTo.j0 (k + 1) y0 y1 y2 y3 y4 y5 y6 y7)) ∧ (∀ y0 y1 y2 y3 y4 y5, LeO (laws_FnExactWaysTo.j1 k y0 y1 y2 y3 y4 y5) (laws_FnExactWaysTo.j1 (k + 1) y0 y1 y2 y3 y4 y5)) ∧ (∀ y0 y1 y2, LeO (laws_FnExactWaysTo.j2 k y0 y1 y2) (laws_FnExactWaysTo.j2 (k + 1) y0 y1 y2))
 | 0 => ⟨fun _ _ _ _ _ _ _ _ r h => by simp [laws_FnExactWaysTo.j0] at h, fun _ _ _ _ _ _ r h => by simp [laws_FnExactWaysTo.j1] at h, fun _ _ _ r h => by simp [laws_FnExactWaysTo.j2] at h⟩
 | k + 1 => by
  obtain ⟨ih0, ih1, ih2⟩ := laws_FnExactWaysTo.mono_l k
  refine ⟨?_, ?_, ?_⟩
  ·intro y0 y1 y2 y3 y4 y5 y6 y7
   unfold laws_FnExactWaysTo.j0
   repeat' first
   | (with_reducible exact ih0 _ _ _ _ _ _ _ _)
   | (with_reducible exact ih1 _ _ _ _ _ _)
   | (with_reducible exact ih2 _ _ _)
   | (with_reducible exact impl_WaysTo.mono _ _ _)
   | (with_reducible exact laws_eqBlockS.mono _ _ _)
   | (with_reducible exact laws_eqWayS.mono _ _ _)
   | (with_reducible exact laws_heldBlockS.mono _ _ _)
   | (with_reducible exact laws_markBlockS.mono _ _ _)
   | (with_reducible exact laws_markWayS.mono _ _ _)
   | (with_reducible exact laws_toWayS.mono _ _)
   | (with_reducible exact spec_WaysTo.mono _ _ _)
   | (with_reducible exact LeO.refl _)
   | (with_reducible exact LeO.none _)
   | (with_reducible refine LeO.ite ?_ ?_)
   | (with_reducible refine LeO.bind ?_ (fun _ => ?_))
   | exact ih0 _ _ _ _ _ _ _ _
   | exact ih1 _ _ _ _ _ _
   | exact ih2 _ _ _
   | exact impl_WaysTo.mono _ _ _
   | exact laws_eqBlockS.mono _ _ _
   | exact laws_eqWayS.mono _ _ _
   | exact laws_heldBlockS.mono _ _ _
   | exact laws_markBlockS.mono _ _ _
   | exact laws_markWayS.mono _ _ _
   | exact laws_toWayS.mono _ _
   | exact spec_WaysTo.mono _ _ _
   | exact LeO.none _
   | refine LeO.ite ?_ ?_
   | refine LeO.bind ?_ (fun _ => ?_)
  ·intro y0 y1 y2 y3 y4 y5
   unfold laws_FnExactWaysTo.j1
   repeat' first
   | (with_reducible exact ih0 _ _ _ _ _ _ _ _)
   | (with_reducible exact ih1 _ _ _ _ _ _)
   | (with_reducible exact ih2 _ _ _)
   | (with_reducible exact impl_WaysTo.mono _ _ _)
   | (with_reducible exact laws_eqBlockS.mono _ _ _)
   | (with_reducible exact laws_eqWayS.mono _ _ _)
   | (with_reducible exact laws_heldBlockS.mono _ _ _)
   | (with_reducible exact laws_markBlockS.mono _ _ _)
   | (with_reducible exact laws_markWayS.mono _ _ _)
   | (with_reducible exact laws_toWayS.mono _ _)
   | (with_reducible exact spec_WaysTo.mono _ _ _)
   | (with_reducible exact LeO.refl _)
   | (with_reducible exact LeO.none _)
   | (with_reducible refine LeO.ite ?_ ?_)
   | (with_reducible refine LeO.bind ?_ (fun _ => ?_))
   | exact ih0 _ _ _ _ _ _ _ _
   | exact ih1 _ _ _ _ _ _
   | exact ih2 _ _ _
   | exact impl_WaysTo.mono _ _ _
   | exact laws_eqBlockS.mono _ _ _
   | exact laws_eqWayS.mono _ _ _
   | exact laws_heldBlockS.mono _ _ _
   | exact laws_markBlockS.mono _ _ _
   | exact laws_markWayS.mono _ _ _
   | exact laws_toWayS.mono _ _
   | exact spec_WaysTo.mono _ _ _
   | exact LeO.none _
   | refine LeO.ite ?_ ?_
   | refine LeO.bind ?_ (fun _ => ?_)
  ·intro y0 y1 y2
   unfold laws_FnExactWaysTo.j2
   repeat' first
   | (with_reducible exact ih0 _ _ _ _ _ _ _ _)
   | (with_reducible exact ih1 _ _ _ _ _ _)
   | (with_reducible exact ih2 _ _ _)
   | (with_reducible exact impl_WaysTo.mono _ _ _)
   | (with_reducible exact laws_eqBlockS.mono _ _ _)
   | (with_reducible exact laws_eqWayS.mono _ _ _)
   | (with_reducible exact laws_heldBlockS.mono _ _ _)
   | (with_reducible exact laws_markBlockS.mono _ _ _)
   | (with_reducible exact laws_markWayS.mono _ _ _)
   | (with_reducible exact laws_toWayS.mono _ _)
   | (with_reducible exact spec_WaysTo.mono _ _ _)
   | (with_reducible exact LeO.refl _)
   | (with_reducible exact LeO.none _)
   | (with_reducible refine LeO.ite ?_ ?_)
   | (with_reducible refine LeO.bind ?_ (fun _ => ?_))
   | exact ih0 _ _ _ _ _ _ _ _
   | exact ih1 _ _ _ _ _ _
   | exact ih2 _ _ _
   | exact impl_WaysTo.mono _ _ _
   | exact laws_eqBlockS.mono _ _ _
   | exact laws_eqWayS.mono _ _ _
   | exact laws_heldBlockS.mono _ _ _
   | exact laws_markBlockS.mono _ _ _
   | exact laws_markWayS.mono _ _ _
   | exact laws_toWayS.mono _ _
   | exact spec_WaysTo.mono _ _ _
   | exact LeO.none _
   | refine LeO.ite ?_ ?_
   | refine LeO.bind ?_ (fun _ => ?_)
theorem laws_FnExactWaysTo.mono : ∀ a0 a1 k, LeO (laws_FnExactWaysTo.f k a0 a1) (laws_FnExactWaysTo.f (k + 1) a0 a1) := by
 intro a0 a1 k
 obtain ⟨ih0, ih1, ih2⟩ := laws_FnExactWaysTo.mono_l k
 unfold laws_FnExactWaysTo.f
 repeat' first
   | (with_reducible exact ih0 _ _ _ _ _ _ _ _)
   | (with_reducible exact ih1 _ _ _ _ _ _)
   | (with_reducible exact ih2 _ _ _)
   | (with_reducible exact impl_WaysTo.mono _ _ _)
   | (with_reducible exact laws_eqBlockS.mono _ _ _)
   | (with_reducible exact laws_eqWayS.mono _ _ _)
   | (with_reducible exact laws_heldBlockS.mono _ _ _)
   | (with_reducible exact laws_markBlockS.mono _ _ _)
   | (with_reducible exact laws_markWayS.mono _ _ _)
   | (with_reducible exact laws_toWayS.mono _ _)
   | (with_reducible exact spec_WaysTo.mono _ _ _)
   | (with_reducible exact LeO.refl _)
   | (with_reducible exact LeO.none _)
   | (with_reducible refine LeO.ite ?_ ?_)
   | (with_reducible refine LeO.bind ?_ (fun _ => ?_))
   | exact ih0 _ _ _ _ _ _ _ _
   | exact ih1 _ _ _ _ _ _
   | exact ih2 _ _ _
   | exact impl_WaysTo.mono _ _ _
   | exact laws_eqBlockS.mono _ _ _
   | exact laws_eqWayS.mono _ _ _
   | exact laws_heldBlockS.mono _ _ _
   | exact laws_markBlockS.mono _ _ _
   | exact laws_markWayS.mono _ _ _
   | exact laws_toWayS.mono _ _
   | exact spec_WaysTo.mono _ _ _
   | exact LeO.none _
   | refine LeO.ite ?_ ?_
   | refine LeO.bind ?_ (fun _ => ?_)
set_option maxHeartbeats 8000000 in
set_option maxRecDepth 100000 in
theorem laws_FnExactWaysTo.calls (k : Nat) (A0 : Option Addr) (c0 : Nat) (l0 : List (S98)) (a1 : Int) (r : Bool) (w : World) (hr0 : Kd.C k98 w A0 l0.length l0) (hc0 : l0.length ≤ c0) (h : laws_FnExactWaysTo.f k l0 a1 = some r) :
  Calls Try.prog 8 #[.slice A0 l0.length c0, .int .i64 a1] w fun e w' => e = .returned (.bool r) ∧ Below w.heap.size w w' := by
 have HR0 := Aside0.mk hr0
 have HC0 := Aside0.mk hc0
 clear hr0 hc0
 have HB := Aside0.mk (Below.refl w.heap.size w)
 have H : ((laws_szWayS.f l0 1048576).bind fun t433 => (if t433 < 0 then (some true) else ((laws_toWayS.f k l0).bind fun t434 => ((spec_WaysTo.f k t434 a1).bind fun bt437 => ((laws_toWayS.f k l0).bind fun t441 => ((impl_WaysTo.f k t441 a1).bind fun bt444 => ((laws_eqBlockS.f k bt444.1 bt437.1).bind fun t448 => (if t448 = true then (laws_FnExactWaysTo.j0 k l0 a1 bt437.1 bt437.2 t441 bt444.1 bt444.2 (bt444.2 != bt437.2)) else (laws_FnExactWaysTo.j0 k l0 a1 bt437.1 bt437.2 t441 bt444.1 bt444.2 true))))))))) = some r := h
 clear h
 replace H := bd H
 obtain ⟨t433, A3, H⟩ := H
 replace H : (if t433 < 0 then (some true) else ((laws_toWayS.f k l0).bind fun t434 => ((spec_WaysTo.f k t434 a1).bind fun bt437 => ((laws_toWayS.f k l0).bind fun t441 => ((impl_WaysTo.f k t441 a1).bind fun bt444 => ((laws_eqBlockS.f k bt444.1 bt437.1).bind fun t448 => (if t448 = true then (laws_FnExactWaysTo.j0 k l0 a1 bt437.1 bt437.2 t441 bt444.1 bt444.2 (bt444.2 != bt437.2)) else (laws_FnExactWaysTo.j0 k l0 a1 bt437.1 bt437.2 t441 bt444.1 bt444.2 true)))))))) = some r := H
 replace H := ic H
 rcases H with ⟨c4b0, H⟩ | ⟨c4b0, H⟩
 ·obtain rfl := Option.some.inj H
  go_enter Try.func8, Try.ntmps8
  go_wp2_with (first | (refine gc (some 18) Try.func34 #[.slice A0 l0.length c0, .int .i64 1048576] ?_; (with_reducible refine (laws_szWayS.calls _ _ l0 1048576 t433 _ ?side1 ?side2 A3.out).mono ?_); (case side1 => exact zz46 HR0); (case side2 => exact HC0.out); rintro e w' ⟨rfl, ⟨nd, rfl⟩⟩; refine ⟨_, rfl, ?_⟩))
  go_ret
  exact ⟨zz6, zz2⟩
 ·replace H := Option.bind_eq_some_iff.mp H
  obtain ⟨t434, A50, H⟩ := H
  replace H : ((spec_WaysTo.f k t434 a1).bind fun bt437 => ((laws_toWayS.f k l0).bind fun t441 => ((impl_WaysTo.f k t441 a1).bind fun bt444 => ((laws_eqBlockS.f k bt444.1 bt437.1).bind fun t448 => (if t448 = true then (laws_FnExactWaysTo.j0 k l0 a1 bt437.1 bt437.2 t441 bt444.1 bt444.2 (bt444.2 != bt437.2)) else (laws_FnExactWaysTo.j0 k l0 a1 bt437.1 bt437.2 t441 bt444.1 bt444.2 true)))))) = some r := H
  have A5 := Aside0.mk A50
  clear A50
  replace H := bd H
  obtain ⟨⟨t437, t438⟩, A6, H⟩ := H
  replace H : ((laws_toWayS.f k l0).bind fun t441 => ((impl_WaysTo.f k t441 a1).bind fun bt444 => ((laws_eqBlockS.f k bt444.1 t437).bind fun t448 => (if t448 = true then (laws_FnExactWaysTo.j0 k l0 a1 t437 t438 t441 bt444.1 bt444.2 (bt444.2 != t438)) else (laws_FnExactWaysTo.j0 k l0 a1 t437 t438 t441 bt444.1 bt444.2 true))))) = some r := H
  replace H := bd H
  obtain ⟨t441, A7, H⟩ := H
  replace H : ((impl_WaysTo.f k t441 a1).bind fun bt444 => ((laws_eqBlockS.f k bt444.1 t437).bind fun t448 => (if t448 = true then (laws_FnExactWaysTo.j0 k l0 a1 t437 t438 t441 bt444.1 bt444.2 (bt444.2 != t438)) else (laws_FnExactWaysTo.j0 k l0 a1 t437 t438 t441 bt444.1 bt444.2 true)))) = some r := H
  replace H := bd H
  obtain ⟨⟨t444, t447⟩, A8, H⟩ := H
  replace H : ((laws_eqBlockS.f k t444 t437).bind fun t448 => (if t448 = true then (laws_FnExactWaysTo.j0 k l0 a1 t437 t438 t441 t444 t447 (t447 != t438)) else (laws_FnExactWaysTo.j0 k l0 a1 t437 t438 t441 t444 t447 true))) = some r := H
  have HC9 := Aside0.mk H
  clear H
  go_enter Try.func8, Try.ntmps8
  go_upto_region 8 with (first | (refine gc (some 18) Try.func34 #[.slice A0 l0.length c0, .int .i64 1048576] ?_; (with_reducible refine (laws_szWayS.calls _ _ l0 1048576 t433 _ ?side1 ?side2 A3.out).mono ?_); (case side1 => exact zz46 HR0); (case side2 => exact HC0.out); rintro e w' ⟨rfl, ⟨nd, rfl⟩⟩; refine ⟨_, rfl, ?_⟩) | (refine gc (some 23) Try.func36 #[.slice A0 l0.length c0] ?_; (with_reducible refine (laws_toWayS.calls k _ _ l0 t434 _ ?side1 ?side2 A5.out).mono ?_); (case side1 => exact zz46 HR0); (case side2 => exact HC0.out); rintro e w10 ⟨v435, rfl, ho0, hb⟩; refine ⟨_, rfl, ?_⟩; have HO436 := Aside0.mk (Kd.R_lower ho0 (below_size zz2)); replace HB := Aside0.mk (below_step zz2 hb); clear hb ho0; obtain ⟨Ao11, co11, eo11⟩ := Kd.R_slice HO436.out; subst eo11) | (refine gc (some 25) Try.func35 #[.slice Ao11 t434.length co11, .int .i64 a1] ?_; (with_reducible refine (spec_WaysTo.calls k _ _ t434 a1 t437 t438 _ ?side1 ?side2 A6.out).mono ?_); (case side1 => exact zz33 HO436); (case side2 => exact zz42 HO436); rintro e w12 ⟨v439, rfl, ho0, hb⟩; refine ⟨_, rfl, ?_⟩; replace HO436 := Aside0.mk (Kd.R_below (zz13 HO436) hb); have HO440 := Aside0.mk (Kd.R_lower ho0 (below_size zz2)); replace HB := Aside0.mk (below_step zz2 hb); clear hb ho0) | (refine gc (some 29) Try.func36 #[.slice A0 l0.length c0] ?_; (with_reducible refine (laws_toWayS.calls k _ _ l0 t441 _ ?side1 ?side2 A7.out).mono ?_); (case side1 => exact zz38 HR0); (case side2 => exact HC0.out); rintro e w13 ⟨v442, rfl, ho0, hb⟩; refine ⟨_, rfl, ?_⟩; replace HO440 := Aside0.mk (Kd.R_below (zz13 HO440) hb); have HO443 := Aside0.mk (Kd.R_lower (Kd.R_new' ho0 (Kd.R_lt (zz13 HO436))) (below_size zz2)); replace HO436 := Aside0.mk (Kd.R_elder' (zz13 HO436) (Kd.R_base ho0) hb); replace HB := Aside0.mk (below_step zz2 hb); clear hb ho0; obtain ⟨Ao14, co14, eo14⟩ := Kd.R_slice HO443.out; subst eo14) | (refine gc (some 33) Try.func37 #[.slice Ao14 t441.length co14, .int .i64 a1] ?_; (with_reducible refine (impl_WaysTo.calls k (fun k_ => some k_ = (.slice Ao14 t441.length co14 : Value).ownBlock) _ _ t441 a1 t444 t447 _ ?side1 A8.out).mono ?_); (case side1 => exact Kd.R_V (Kd.R_tight rfl (Kd.R_apart' (HO443.out) (Kd.R_typed HO440.out) (by decide)))); rintro e w15 ⟨v445, rfl, ho0, hb⟩; refine ⟨_, rfl, ?_⟩; replace HO436 := Aside0.mk (Kd.R_below (zz13 HO436) hb); replace HO443 := Aside0.mk (Kd.R_below (zz13 HO443) hb); have HO446 := Aside0.mk (Kd.R_lower (Kd.R_new' (Kd.R_mono (ok' := fun k_ => True) ho0 (fun _ hk_ => trivial)) (Kd.R_lt (zz13 HO440))) (below_size zz2)); replace HO440 := Aside0.mk (Kd.R_elder' (zz13 HO440) (Kd.R_base ho0) hb); replace HB := Aside0.mk (below_step zz2 hb); clear hb ho0))
  (try simp only [Act.put, List.setIfInBounds_toArray, List.set_cons_zero, List.set_cons_succ])
  go_cut [44] (fun v44 wc => ∃ (kq : Nat) (x44_8 : Bool), v44 = .bool x44_8 ∧ Aside0 (laws_FnExactWaysTo.j0 kq l0 a1 t437 t438 t441 t444 t447 x44_8 = some r) ∧ Aside0 (kq ≤ k) ∧ Aside0 (Kd.R k40 40 wc w.heap.size (fun k_ => some k_ ≠ (v445 : Value).ownBlock) v439 t437) ∧ Aside0 (Kd.R k95 95 wc w.heap.size (fun _ => True) (.slice Ao14 t441.length co14) t441) ∧ Aside0 (Kd.R k40 40 wc w.heap.size (fun k_ => some k_ ≠ (v439 : Value).ownBlock) v445 t444) ∧ Aside0 (Below w.heap.size w wc))
  case first =>
   have H := HC9.out
   clear HC9
   replace H := bd H
   obtain ⟨t448, A16, H⟩ := H
   replace H : (if t448 = true then (laws_FnExactWaysTo.j0 k l0 a1 t437 t438 t441 t444 t447 (t447 != t438)) else (laws_FnExactWaysTo.j0 k l0 a1 t437 t438 t441 t444 t447 true)) = some r := H
   by_cases c17 : t448 = true
   ·subst c17
    have H1 : (laws_FnExactWaysTo.j0 k l0 a1 t437 t438 t441 t444 t447 (t447 != t438)) = some r := by rw [if_pos rfl] at H; exact H
    clear H
    have H := H1
    clear H1
    have H' := Aside0.mk H
    clear H
    obtain ⟨Ao18, co18, eo18⟩ := Kd.R_slice HO446.out
    subst eo18
    obtain ⟨Ao19, co19, eo19⟩ := Kd.R_slice HO440.out
    subst eo19
    go_wp2_with (first | (refine gc (some 38) Try.func19 #[.slice Ao18 t444.length co18, .slice Ao19 t437.length co19] ?_; (with_reducible refine (laws_eqBlockS.calls k _ _ t444 _ _ t437 true _ ?side1 ?side2 ?side3 ?side4 A16.out).mono ?_); (case side1 => exact zz33 HO446); (case side2 => exact zz42 HO446); (case side3 => exact zz33 HO440); (case side4 => exact zz42 HO440); rintro e w20 ⟨rfl, hb⟩; refine ⟨_, rfl, ?_⟩; replace HO436 := Aside0.mk (Kd.R_below (zz13 HO436) hb); replace HO440 := Aside0.mk (Kd.R_below (zz13 HO440) hb); replace HO443 := Aside0.mk (Kd.R_below (zz13 HO443) hb); replace HO446 := Aside0.mk (Kd.R_below (zz13 HO446) hb); replace HB := Aside0.mk (below_step zz2 hb); clear hb))
    go_meet
    case rel => exact ⟨_, ((t447 != t438)), zz8, H', ⟨zz41⟩, ⟨zz48 HO440⟩, ⟨zz17 HO443⟩, ⟨zz48 HO446⟩, ⟨zz2⟩⟩
   ·replace c17 := Bool.eq_false_iff.mpr c17
    subst c17
    have H1 : (laws_FnExactWaysTo.j0 k l0 a1 t437 t438 t441 t444 t447 true) = some r := by rw [if_neg (show ¬ (false = true) by decide)] at H; exact H
    clear H
    have H := H1
    clear H1
    have H' := Aside0.mk H
    clear H
    obtain ⟨Ao21, co21, eo21⟩ := Kd.R_slice HO446.out
    subst eo21
    obtain ⟨Ao22, co22, eo22⟩ := Kd.R_slice HO440.out
    subst eo22
    go_wp2_with (first | (refine gc (some 38) Try.func19 #[.slice Ao21 t444.length co21, .slice Ao22 t437.length co22] ?_; (with_reducible refine (laws_eqBlockS.calls k _ _ t444 _ _ t437 false _ ?side1 ?side2 ?side3 ?side4 A16.out).mono ?_); (case side1 => exact zz33 HO446); (case side2 => exact zz42 HO446); (case side3 => exact zz33 HO440); (case side4 => exact zz42 HO440); rintro e w23 ⟨rfl, hb⟩; refine ⟨_, rfl, ?_⟩; replace HO436 := Aside0.mk (Kd.R_below (zz13 HO436) hb); replace HO440 := Aside0.mk (Kd.R_below (zz13 HO440) hb); replace HO443 := Aside0.mk (Kd.R_below (zz13 HO443) hb); replace HO446 := Aside0.mk (Kd.R_below (zz13 HO446) hb); replace HB := Aside0.mk (below_step zz2 hb); clear hb))
    go_meet
    case rel => exact ⟨_, (true), zz8, H', ⟨zz41⟩, ⟨zz48 HO440⟩, ⟨zz17 HO443⟩, ⟨zz48 HO446⟩, ⟨zz2⟩⟩
  case rest =>
   clear HC9
   try clear c1
   try clear p2
   try clear c3
   try clear c4
   try clear c4b0
   try clear c8
   try clear c17
   try clear c19
   obtain ⟨kq, x44_8, rfl, HA, HJ8, HO_6, HO_8, HO_9, HB⟩ := hcut
   cases kq with
   | zero => exact absurd HA.out (by simp [laws_FnExactWaysTo.j0])
   | succ kj8 =>
    have H := HA.out
    clear HA
    simp only [laws_FnExactWaysTo.j0] at H
    by_cases c24 : x44_8 = true
    ·subst c24
     have H1 : (some false) = some r := by rw [if_pos rfl] at H; exact H
     clear H
     have H := H1
     clear H1
     obtain rfl := Option.some.inj H
     go_wp2
     go_ret
     exact ⟨zz6, zz2⟩
    ·replace c24 := Bool.eq_false_iff.mpr c24
     subst c24
     have H1 : ((laws_toWayS.f kj8 l0).bind fun t449 => ((laws_eqWayS.f kj8 t441 t449).bind fun t452 => (if t452 = true then ((laws_markWayS.f kj8 t441 1).bind fun bt453 => (if bt453.1 < 0 then (laws_FnExactWaysTo.j1 kj8 l0 a1 t437 t438 t444 true) else ((laws_eqBlockS.f kj8 t444 t437).bind fun t455 => (if t455 = true then (laws_FnExactWaysTo.j1 kj8 l0 a1 t437 t438 t444 (t447 != t438)) else (laws_FnExactWaysTo.j1 kj8 l0 a1 t437 t438 t444 true))))) else (some false)))) = some r := by rw [if_neg (show ¬ (false = true) by decide)] at H; exact H
     clear H
     have H := H1
     clear H1
     replace H := bd H
     obtain ⟨t449, A25, H⟩ := H
     replace H : ((laws_eqWayS.f kj8 t441 t449).bind fun t452 => (if t452 = true then ((laws_markWayS.f kj8 t441 1).bind fun bt453 => (if bt453.1 < 0 then (laws_FnExactWaysTo.j1 kj8 l0 a1 t437 t438 t444 true) else ((laws_eqBlockS.f kj8 t444 t437).bind fun t455 => (if t455 = true then (laws_FnExactWaysTo.j1 kj8 l0 a1 t437 t438 t444 (t447 != t438)) else (laws_FnExactWaysTo.j1 kj8 l0 a1 t437 t438 t444 true))))) else (some false))) = some r := H
     replace H := bd H
     obtain ⟨t452, A26, H⟩ := H
     replace H : (if t452 = true then ((laws_markWayS.f kj8 t441 1).bind fun bt453 => (if bt453.1 < 0 then (laws_FnExactWaysTo.j1 kj8 l0 a1 t437 t438 t444 true) else ((laws_eqBlockS.f kj8 t444 t437).bind fun t455 => (if t455 = true then (laws_FnExactWaysTo.j1 kj8 l0 a1 t437 t438 t444 (t447 != t438)) else (laws_FnExactWaysTo.j1 kj8 l0 a1 t437 t438 t444 true))))) else (some false)) = some r := H
     by_cases c27 : t452 = true
     ·subst c27
      have H1 : ((laws_markWayS.f kj8 t441 1).bind fun bt453 => (if bt453.1 < 0 then (laws_FnExactWaysTo.j1 kj8 l0 a1 t437 t438 t444 true) else ((laws_eqBlockS.f kj8 t444 t437).bind fun t455 => (if t455 = true then (laws_FnExactWaysTo.j1 kj8 l0 a1 t437 t438 t444 (t447 != t438)) else (laws_FnExactWaysTo.j1 kj8 l0 a1 t437 t438 t444 true))))) = some r := by rw [if_pos rfl] at H; exact H
      clear H
      have H := H1
      clear H1
      replace H := bd H
      obtain ⟨⟨t453, t454⟩, A28, H⟩ := H
      replace H : (if t453 < 0 then (laws_FnExactWaysTo.j1 kj8 l0 a1 t437 t438 t444 true) else ((laws_eqBlockS.f kj8 t444 t437).bind fun t455 => (if t455 = true then (laws_FnExactWaysTo.j1 kj8 l0 a1 t437 t438 t444 (t447 != t438)) else (laws_FnExactWaysTo.j1 kj8 l0 a1 t437 t438 t444 true)))) = some r := H
      have HC29 := Aside0.mk H
      clear H
      go_upto_region 14 with (first | (refine gc (some 47) Try.func36 #[.slice A0 l0.length c0] ?_; (with_reducible refine (laws_toWayS.calls kj8 _ _ l0 t449 _ ?side1 ?side2 A25.out).mono ?_); (case side1 => exact zz38 HR0); (case side2 => exact HC0.out); rintro e w30 ⟨v450, rfl, ho0, hb⟩; refine ⟨_, rfl, ?_⟩; replace HO_6 := Aside0.mk (Kd.R_below (zz13 HO_6) hb); replace HO_9 := Aside0.mk (Kd.R_below (zz13 HO_9) hb); have HO451 := Aside0.mk (Kd.R_lower (Kd.R_new' ho0 (Kd.R_lt (zz13 HO_8))) (below_size zz2)); replace HO_8 := Aside0.mk (Kd.R_elder' (zz13 HO_8) (Kd.R_base ho0) hb); replace HB := Aside0.mk (below_step zz2 hb); clear hb ho0; obtain ⟨Ao31, co31, eo31⟩ := Kd.R_slice HO451.out; subst eo31) | (refine gc (some 48) Try.func38 #[.slice Ao14 t441.length co14, .slice Ao31 t449.length co31] ?_; (with_reducible refine (laws_eqWayS.calls kj8 _ _ t441 _ _ t449 true _ ?side1 ?side2 ?side3 ?side4 A26.out).mono ?_); (case side1 => exact zz33 HO_8); (case side2 => exact zz42 HO_8); (case side3 => exact zz33 HO451); (case side4 => exact zz42 HO451); rintro e w32 ⟨rfl, hb⟩; refine ⟨_, rfl, ?_⟩; replace HO_6 := Aside0.mk (Kd.R_below (zz13 HO_6) hb); replace HO_8 := Aside0.mk (Kd.R_below (zz13 HO_8) hb); replace HO_9 := Aside0.mk (Kd.R_below (zz13 HO_9) hb); replace HO451 := Aside0.mk (Kd.R_below (zz13 HO451) hb); replace HB := Aside0.mk (below_step zz2 hb); clear hb) | (refine gc (some 52) Try.func39 #[.slice Ao14 t441.length co14, .int .i64 1] ?_; (with_reducible refine (laws_markWayS.calls kj8 (fun k_ => some k_ = (.slice Ao14 t441.length co14 : Value).ownBlock) (.slice Ao14 t441.length co14) t441 1 t453 t454 w _ ?side1 ?side2 A28.out).mono ?_); (case side1 => exact zz2); (case side2 => exact zz36 HO_8); rintro e w33 ⟨rfl, hy0, hb, hkp⟩; refine ⟨_, rfl, ?_⟩; replace HO_6 := Aside0.mk (Kd.R_mono (ok' := fun k_ => some k_ ≠ (v445 : Value).ownBlock) (Kd.R_keptB ((Kd.R_apart' HO_6.out (Kd.R_typed HO_8.out) (by decide))) hkp (fun k_ hk_ hs_ => (hk_.2) hs_)) (fun k_ hk_ => hk_.1.1)); replace HO_9 := Aside0.mk (Kd.R_mono (ok' := fun k_ => some k_ ≠ (v439 : Value).ownBlock) (Kd.R_keptB ((Kd.R_apart' HO_9.out (Kd.R_typed HO_8.out) (by decide))) hkp (fun k_ hk_ hs_ => (hk_.2) hs_)) (fun k_ hk_ => hk_.1.1)); replace HO_8 := Aside0.mk (Kd.R_reok rfl hy0 (fun k_ e_ => HO_8.out.1 k_ e_)); replace HO451 := Aside0.mk (Kd.R_mono (ok' := fun k_ => some k_ ≠ (.slice Ao14 t441.length co14 : Value).ownBlock) (Kd.R_keptB (HO451.out) hkp (fun k_ hk_ hs_ => (hk_.2) hs_)) (fun k_ hk_ => hk_.1.2)); replace HB := Aside0.mk hb; clear hb hkp hy0))
      (try simp only [Act.put, List.setIfInBounds_toArray, List.set_cons_zero, List.set_cons_succ])
      go_cut [65] (fun v65 wc => ∃ (kq : Nat) (x65_28 : Bool), v65 = .bool x65_28 ∧ Aside0 (laws_FnExactWaysTo.j1 kq l0 a1 t437 t438 t444 x65_28 = some r) ∧ Aside0 (kq ≤ kj8) ∧ Aside0 (Kd.R k40 40 wc w.heap.size (fun k_ => some k_ ≠ (v445 : Value).ownBlock) v439 t437) ∧ Aside0 (Kd.R k40 40 wc w.heap.size (fun k_ => some k_ ≠ (v439 : Value).ownBlock) v445 t444) ∧ Aside0 (Below w.heap.size w wc))
      case first =>
       have H := HC29.out
       clear HC29
       replace H := ic H
       rcases H with ⟨c34b0, H⟩ | ⟨c34b0, H⟩
       ·(first | rw [c34b0] | (simp only [i64_w, i32_w]; rw [c34b0]) | skip)
        have H' := Aside0.mk H
        clear H
        go_wp2
        go_meet
        case rel => exact ⟨_, (true), zz8, H', ⟨by have := HJ8.out; first | omega | exact Nat.le_refl _⟩, ⟨zz13 HO_6⟩, ⟨zz13 HO_9⟩, ⟨zz2⟩⟩
       ·(first | rw [c34b0] | (simp only [i64_w, i32_w]; rw [c34b0]) | skip)
        replace H := bd H
        obtain ⟨t455, A35, H⟩ := H
        replace H : (if t455 = true then (laws_FnExactWaysTo.j1 kj8 l0 a1 t437 t438 t444 (t447 != t438)) else (laws_FnExactWaysTo.j1 kj8 l0 a1 t437 t438 t444 true)) = some r := H
        by_cases c36 : t455 = true
        ·subst c36
         have H1 : (laws_FnExactWaysTo.j1 kj8 l0 a1 t437 t438 t444 (t447 != t438)) = some r := by rw [if_pos rfl] at H; exact H
         clear H
         have H := H1
         clear H1
         have H' := Aside0.mk H
         clear H
         obtain ⟨Ao37, co37, eo37⟩ := Kd.R_slice HO_9.out
         subst eo37
         obtain ⟨Ao38, co38, eo38⟩ := Kd.R_slice HO_6.out
         subst eo38
         go_wp2_with (first | (go_at_call 19; (with_reducible refine (laws_eqBlockS.calls kj8 _ _ t444 _ _ t437 true _ ?side1 ?side2 ?side3 ?side4 A35.out).mono ?_); (case side1 => exact zz33 HO_9); (case side2 => exact zz42 HO_9); (case side3 => exact zz33 HO_6); (case side4 => exact zz42 HO_6); rintro e w39 ⟨rfl, hb⟩; replace HO_6 := Aside0.mk (Kd.R_below (zz13 HO_6) hb); replace HO_8 := Aside0.mk (Kd.R_below (zz13 HO_8) hb); replace HO_9 := Aside0.mk (Kd.R_below (zz13 HO_9) hb); replace HO451 := Aside0.mk (Kd.R_below (zz13 HO451) hb); replace HB := Aside0.mk (below_step zz2 hb); clear hb))
         go_meet
         case rel => exact ⟨_, ((t447 != t438)), zz8, H', ⟨by have := HJ8.out; first | omega | exact Nat.le_refl _⟩, ⟨zz13 HO_6⟩, ⟨zz13 HO_9⟩, ⟨zz2⟩⟩
        ·replace c36 := Bool.eq_false_iff.mpr c36
         subst c36
         have H1 : (laws_FnExactWaysTo.j1 kj8 l0 a1 t437 t438 t444 true) = some r := by rw [if_neg (show ¬ (false = true) by decide)] at H; exact H
         clear H
         have H := H1
         clear H1
         have H' := Aside0.mk H
         clear H
         obtain ⟨Ao40, co40, eo40⟩ := Kd.R_slice HO_9.out
         subst eo40
         obtain ⟨Ao41, co41, eo41⟩ := Kd.R_slice HO_6.out
         subst eo41
         go_wp2_with (first | (go_at_call 19; (with_reducible refine (laws_eqBlockS.calls kj8 _ _ t444 _ _ t437 false _ ?side1 ?side2 ?side3 ?side4 A35.out).mono ?_); (case side1 => exact zz33 HO_9); (case side2 => exact zz42 HO_9); (case side3 => exact zz33 HO_6); (case side4 => exact zz42 HO_6); rintro e w42 ⟨rfl, hb⟩; replace HO_6 := Aside0.mk (Kd.R_below (zz13 HO_6) hb); replace HO_8 := Aside0.mk (Kd.R_below (zz13 HO_8) hb); replace HO_9 := Aside0.mk (Kd.R_below (zz13 HO_9) hb); replace HO451 := Aside0.mk (Kd.R_below (zz13 HO451) hb); replace HB := Aside0.mk (below_step zz2 hb); clear hb))
         go_meet
         case rel => exact ⟨_, (true), zz8, H', ⟨by have := HJ8.out; first | omega | exact Nat.le_refl _⟩, ⟨zz13 HO_6⟩, ⟨zz13 HO_9⟩, ⟨zz2⟩⟩
      case rest =>
       clear HC29
       try clear c1
       try clear c2
       try clear p2
       try clear c3
       try clear c4
       try clear c4b0
       try clear c8
       try clear c17
       try clear c19
       try clear c24
       try clear c27
       try clear c34
       try clear c34b0
       try clear c35
       try clear c36
       try clear c37
       try clear c38
       try clear c39
       try clear p2
       obtain ⟨kq, x65_28, rfl, HA, HJ28, HO_6, HO_9, HB⟩ := hcut
       cases kq with
       | zero => exact absurd HA.out (by simp [laws_FnExactWaysTo.j1])
       | succ kj28 =>
        have H := HA.out
        clear HA
        simp only [laws_FnExactWaysTo.j1] at H
        by_cases c43 : x65_28 = true
        ·subst c43
         have H1 : (some false) = some r := by rw [if_pos rfl] at H; exact H
         clear H
         have H := H1
         clear H1
         obtain rfl := Option.some.inj H
         go_wp2
         go_ret
         exact ⟨zz6, zz2⟩
        ·replace c43 := Bool.eq_false_iff.mpr c43
         subst c43
         have H1 : ((laws_markBlockS.f kj28 t444 1).bind fun bt456 => ((laws_heldBlockS.f kj28 bt456.2 1).bind fun t458 => (if t458 < 0 then (some false) else (if t458 = bt456.1 then ((laws_toWayS.f kj28 l0).bind fun t459 => ((impl_WaysTo.f kj28 t459 a1).bind fun bt462 => ((laws_eqBlockS.f kj28 bt462.1 t437).bind fun t466 => (if t466 = true then (laws_FnExactWaysTo.j2 kj28 bt456.2 bt456.1 (bt462.2 != t438)) else (laws_FnExactWaysTo.j2 kj28 bt456.2 bt456.1 true))))) else (some false))))) = some r := by rw [if_neg (show ¬ (false = true) by decide)] at H; exact H
         clear H
         have H := H1
         clear H1
         replace H := bd H
         obtain ⟨⟨t456, t457⟩, A44, H⟩ := H
         replace H : ((laws_heldBlockS.f kj28 t457 1).bind fun t458 => (if t458 < 0 then (some false) else (if t458 = t456 then ((laws_toWayS.f kj28 l0).bind fun t459 => ((impl_WaysTo.f kj28 t459 a1).bind fun bt462 => ((laws_eqBlockS.f kj28 bt462.1 t437).bind fun t466 => (if t466 = true then (laws_FnExactWaysTo.j2 kj28 t457 t456 (bt462.2 != t438)) else (laws_FnExactWaysTo.j2 kj28 t457 t456 true))))) else (some false)))) = some r := H
         replace H := bd H
         obtain ⟨t458, A45, H⟩ := H
         replace H : (if t458 < 0 then (some false) else (if t458 = t456 then ((laws_toWayS.f kj28 l0).bind fun t459 => ((impl_WaysTo.f kj28 t459 a1).bind fun bt462 => ((laws_eqBlockS.f kj28 bt462.1 t437).bind fun t466 => (if t466 = true then (laws_FnExactWaysTo.j2 kj28 t457 t456 (bt462.2 != t438)) else (laws_FnExactWaysTo.j2 kj28 t457 t456 true))))) else (some false))) = some r := H
         replace H := ic H
         rcases H with ⟨c46b0, H⟩ | ⟨c46b0, H⟩
         ·obtain rfl := Option.some.inj H
          obtain ⟨Ao47, co47, eo47⟩ := Kd.R_slice HO_9.out
          subst eo47
          go_wp2_with (first | (refine gc (some 68) Try.func40 #[.slice Ao47 t444.length co47, .int .i64 1] ?_; (with_reducible refine (laws_markBlockS.calls kj28 (fun k_ => some k_ = (.slice Ao47 t444.length co47 : Value).ownBlock) (.slice Ao47 t444.length co47) t444 1 t456 t457 w _ ?side1 ?side2 A44.out).mono ?_); (case side1 => exact zz2); (case side2 => exact zz36 HO_9); rintro e w48 ⟨rfl, hy0, hb, hkp⟩; refine ⟨_, rfl, ?_⟩; replace HO_6 := Aside0.mk (Kd.R_mono (ok' := fun k_ => some k_ ≠ (.slice Ao47 t444.length co47 : Value).ownBlock) (Kd.R_keptB (HO_6.out) hkp (fun k_ hk_ hs_ => (hk_) hs_)) (fun k_ hk_ => hk_.1)); replace HO_9 := Aside0.mk (Kd.R_reok rfl hy0 (fun k_ e_ => HO_9.out.1 k_ e_)); replace HB := Aside0.mk hb; clear hb hkp hy0) | ((with_reducible refine gate_callee (f := 41) rfl ?_); refine goesL_ (some 71) rfl rfl Try.func41 (by kernel_rfl) rfl #[.slice Ao47 t457.length co47, .int .i64 1] rfl (zz55 HO_9) ?_; (with_reducible refine (laws_heldBlockS.calls kj28 _ _ t457 1 t458 _ ?side1 ?side2 A45.out).mono ?_); (case side1 => exact zz33 HO_9); (case side2 => exact zz56 HO_9); rintro e w' ⟨rfl, ⟨nd, rfl⟩⟩; refine ⟨_, rfl, ?_⟩))
          go_ret
          exact ⟨zz6, zz2⟩
         ·by_cases c49 : t458 = t456
          ·rw [if_pos c49] at H
           have c49b0 : (t458 == t456) = true := beq_iff_eq.mpr c49
           have c49b1 : (t458 != t456) = false := bne_eq_false_iff_eq.mpr c49
           clear c49
           replace H := bd H
           obtain ⟨t459, A50, H⟩ := H
           replace H : ((impl_WaysTo.f kj28 t459 a1).bind fun bt462 => ((laws_eqBlockS.f kj28 bt462.1 t437).bind fun t466 => (if t466 = true then (laws_FnExactWaysTo.j2 kj28 t457 t456 (bt462.2 != t438)) else (laws_FnExactWaysTo.j2 kj28 t457 t456 true)))) = some r := H
           replace H := bd H
           obtain ⟨⟨t462, t465⟩, A51, H⟩ := H
           replace H : ((laws_eqBlockS.f kj28 t462 t437).bind fun t466 => (if t466 = true then (laws_FnExactWaysTo.j2 kj28 t457 t456 (t465 != t438)) else (laws_FnExactWaysTo.j2 kj28 t457 t456 true))) = some r := H
           have HC52 := Aside0.mk H
           clear H
           obtain ⟨Ao53, co53, eo53⟩ := Kd.R_slice HO_9.out
           subst eo53
           go_upto_region 25 with (first | (refine gc (some 68) Try.func40 #[.slice Ao53 t444.length co53, .int .i64 1] ?_; (with_reducible refine (laws_markBlockS.calls kj28 (fun k_ => some k_ = (.slice Ao53 t444.length co53 : Value).ownBlock) (.slice Ao53 t444.length co53) t444 1 t456 t457 w _ ?side1 ?side2 A44.out).mono ?_); (case side1 => exact zz2); (case side2 => exact zz36 HO_9); rintro e w54 ⟨rfl, hy0, hb, hkp⟩; refine ⟨_, rfl, ?_⟩; replace HO_6 := Aside0.mk (Kd.R_mono (ok' := fun k_ => some k_ ≠ (.slice Ao53 t444.length co53 : Value).ownBlock) (Kd.R_keptB (HO_6.out) hkp (fun k_ hk_ hs_ => (hk_) hs_)) (fun k_ hk_ => hk_.1)); replace HO_9 := Aside0.mk (Kd.R_reok rfl hy0 (fun k_ e_ => HO_9.out.1 k_ e_)); replace HB := Aside0.mk hb; clear hb hkp hy0) | ((with_reducible refine gate_callee (f := 41) rfl ?_); refine goesL_ (some 71) rfl rfl Try.func41 (by kernel_rfl) rfl #[.slice Ao53 t457.length co53, .int .i64 1] rfl (zz55 HO_9) ?_; (with_reducible refine (laws_heldBlockS.calls kj28 _ _ t457 1 t458 _ ?side1 ?side2 A45.out).mono ?_); (case side1 => exact zz33 HO_9); (case side2 => exact zz56 HO_9); rintro e w' ⟨rfl, ⟨nd, rfl⟩⟩; refine ⟨_, rfl, ?_⟩) | (refine gc (some 79) Try.func36 #[.slice A0 l0.length c0] ?_; (with_reducible refine (laws_toWayS.calls kj28 _ _ l0 t459 _ ?side1 ?side2 A50.out).mono ?_); (case side1 => repeat (first | exact (Kd.C_below HR0.out zz2) | (with_reducible refine Kd.C_alloc ?_ _) | (with_reducible refine Kd.C_drewN ?_ _) | (with_reducible refine Kd.C_drew ?_))); (case side2 => exact HC0.out); rintro e w55 ⟨v460, rfl, ho0, hb⟩; refine ⟨_, rfl, ?_⟩; replace HO_6 := Aside0.mk (Kd.R_below (zz13 HO_6) hb); replace HO_9 := Aside0.mk (Kd.R_below (zz13 HO_9) hb); have HO461 := Aside0.mk (Kd.R_lower ho0 (below_size zz2)); replace HB := Aside0.mk (below_step zz2 hb); clear hb ho0; obtain ⟨Ao56, co56, eo56⟩ := Kd.R_slice HO461.out; subst eo56) | (refine gc (some 81) Try.func37 #[.slice Ao56 t459.length co56, .int .i64 a1] ?_; (with_reducible refine (impl_WaysTo.calls kj28 (fun k_ => some k_ = (.slice Ao56 t459.length co56 : Value).ownBlock) _ _ t459 a1 t462 t465 _ ?side1 A51.out).mono ?_); (case side1 => exact Kd.R_V (Kd.R_tight rfl (Kd.R_apart' (Kd.R_apart' (HO461.out) (Kd.R_typed HO_6.out) (by decide)) (Kd.R_typed HO_9.out) (by decide)))); rintro e w57 ⟨v463, rfl, ho0, hb⟩; refine ⟨_, rfl, ?_⟩; replace HO461 := Aside0.mk (Kd.R_below (zz13 HO461) hb); have HO464 := Aside0.mk (Kd.R_lower (Kd.R_new' (Kd.R_new' (Kd.R_mono (ok' := fun k_ => True) ho0 (fun _ hk_ => trivial)) (Kd.R_lt (zz13 HO_6))) (Kd.R_lt (zz13 HO_9))) (below_size zz2)); replace HO_6 := Aside0.mk (Kd.R_elder' (zz13 HO_6) (Kd.R_base ho0) hb); replace HO_9 := Aside0.mk (Kd.R_elder' (zz13 HO_9) (Kd.R_base ho0) hb); replace HB := Aside0.mk (below_step zz2 hb); clear hb ho0))
           (try simp only [Act.put, List.setIfInBounds_toArray, List.set_cons_zero, List.set_cons_succ])
           go_cut [92] (fun v92 wc => ∃ (kq : Nat) (x92_51 : Bool), v92 = .bool x92_51 ∧ Aside0 (laws_FnExactWaysTo.j2 kq t457 t456 x92_51 = some r) ∧ Aside0 (kq ≤ kj28) ∧ Aside0 (Kd.R k40 40 wc w.heap.size (fun _ => True) (.slice Ao53 t444.length co53) t457) ∧ Aside0 (Below w.heap.size w wc))
           case first =>
            have H := HC52.out
            clear HC52
            replace H := bd H
            obtain ⟨t466, A58, H⟩ := H
            replace H : (if t466 = true then (laws_FnExactWaysTo.j2 kj28 t457 t456 (t465 != t438)) else (laws_FnExactWaysTo.j2 kj28 t457 t456 true)) = some r := H
            by_cases c59 : t466 = true
            ·subst c59
             have H1 : (laws_FnExactWaysTo.j2 kj28 t457 t456 (t465 != t438)) = some r := by rw [if_pos rfl] at H; exact H
             clear H
             have H := H1
             clear H1
             have H' := Aside0.mk H
             clear H
             obtain ⟨Ao60, co60, eo60⟩ := Kd.R_slice HO464.out
             subst eo60
             obtain ⟨Ao61, co61, eo61⟩ := Kd.R_slice HO_6.out
             subst eo61
             go_wp2_with (first | (refine gc (some 86) Try.func19 #[.slice Ao60 t462.length co60, .slice Ao61 t437.length co61] ?_; (with_reducible refine (laws_eqBlockS.calls kj28 _ _ t462 _ _ t437 true _ ?side1 ?side2 ?side3 ?side4 A58.out).mono ?_); (case side1 => exact zz33 HO464); (case side2 => exact zz42 HO464); (case side3 => exact zz33 HO_6); (case side4 => exact zz42 HO_6); rintro e w62 ⟨rfl, hb⟩; refine ⟨_, rfl, ?_⟩; replace HO_6 := Aside0.mk (Kd.R_below (zz13 HO_6) hb); replace HO_9 := Aside0.mk (Kd.R_below (zz13 HO_9) hb); replace HO461 := Aside0.mk (Kd.R_below (zz13 HO461) hb); replace HO464 := Aside0.mk (Kd.R_below (zz13 HO464) hb); replace HB := Aside0.mk (below_step zz2 hb); clear hb))
             go_meet
             case rel => exact ⟨_, ((t465 != t438)), zz8, H', ⟨by have := HJ8.out; have := HJ28.out; first | omega | exact Nat.le_refl _⟩, ⟨zz17 HO_9⟩, ⟨zz2⟩⟩
            ·replace c59 := Bool.eq_false_iff.mpr c59
             subst c59
             have H1 : (laws_FnExactWaysTo.j2 kj28 t457 t456 true) = some r := by rw [if_neg (show ¬ (false = true) by decide)] at H; exact H
             clear H
             have H := H1
             clear H1
             have H' := Aside0.mk H
             clear H
             obtain ⟨Ao63, co63, eo63⟩ := Kd.R_slice HO464.out
             subst eo63
             obtain ⟨Ao64, co64, eo64⟩ := Kd.R_slice HO_6.out
             subst eo64
             go_wp2_with (first | (refine gc (some 86) Try.func19 #[.slice Ao63 t462.length co63, .slice Ao64 t437.length co64] ?_; (with_reducible refine (laws_eqBlockS.calls kj28 _ _ t462 _ _ t437 false _ ?side1 ?side2 ?side3 ?side4 A58.out).mono ?_); (case side1 => exact zz33 HO464); (case side2 => exact zz42 HO464); (case side3 => exact zz33 HO_6); (case side4 => exact zz42 HO_6); rintro e w65 ⟨rfl, hb⟩; refine ⟨_, rfl, ?_⟩; replace HO_6 := Aside0.mk (Kd.R_below (zz13 HO_6) hb); replace HO_9 := Aside0.mk (Kd.R_below (zz13 HO_9) hb); replace HO461 := Aside0.mk (Kd.R_below (zz13 HO461) hb); replace HO464 := Aside0.mk (Kd.R_below (zz13 HO464) hb); replace HB := Aside0.mk (below_step zz2 hb); clear hb))
             go_meet
             case rel => exact ⟨_, (true), zz8, H', ⟨by have := HJ8.out; have := HJ28.out; first | omega | exact Nat.le_refl _⟩, ⟨zz17 HO_9⟩, ⟨zz2⟩⟩
           case rest =>
            clear HC52
            try clear c1
            try clear c2
            try clear p2
            try clear c3
            try clear c4
            try clear c4b0
            try clear c5
            try clear c8
            try clear c17
            try clear c19
            try clear c24
            try clear c27
            try clear c34
            try clear c34b0
            try clear c35
            try clear c36
            try clear c37
            try clear c38
            try clear c39
            try clear c40
            try clear c41
            try clear c43
            try clear c46
            try clear c46b0
            try clear c49
            try clear c49b0
            try clear c49b1
            try clear c59
            try clear p2
            obtain ⟨kq, x92_51, rfl, HA, HJ51, HO_9, HB⟩ := hcut
            have hl9_51 := (Kd.R_reads' HO_9.out).1
            rw [hl9_51] at HO_9
            (try simp only [hl9_51])
            cases kq with
            | zero => exact absurd HA.out (by simp [laws_FnExactWaysTo.j2])
            | succ kj51 =>
             have H := HA.out
             clear HA
             simp only [laws_FnExactWaysTo.j2] at H
             by_cases c66 : x92_51 = true
             ·subst c66
              have H1 : (some false) = some r := by rw [if_pos rfl] at H; exact H
              clear H
              have H := H1
              clear H1
              obtain rfl := Option.some.inj H
              go_wp2
              go_ret
              exact ⟨zz6, zz2⟩
             ·replace c66 := Bool.eq_false_iff.mpr c66
              subst c66
              have H1 : ((laws_heldBlockS.f kj51 t457 1).bind fun t467 => (if t467 < 0 then (some false) else (if t467 = t456 then (some true) else (some false)))) = some r := by rw [if_neg (show ¬ (false = true) by decide)] at H; exact H
              clear H
              have H := H1
              clear H1
              replace H := bd H
              obtain ⟨t467, A67, H⟩ := H
              replace H : (if t467 < 0 then (some false) else (if t467 = t456 then (some true) else (some false))) = some r := H
              replace H := ic H
              rcases H with ⟨c68b0, H⟩ | ⟨c68b0, H⟩
              ·obtain rfl := Option.some.inj H
               go_wp2_with (first | (refine gc (some 95) Try.func41 #[.slice Ao53 t457.length co53, .int .i64 1] ?_; (with_reducible refine (laws_heldBlockS.calls kj51 _ _ t457 1 t467 _ ?side1 ?side2 A67.out).mono ?_); (case side1 => exact zz33 HO_9); (case side2 => exact zz42 HO_9); rintro e w' ⟨rfl, ⟨nd, rfl⟩⟩; refine ⟨_, rfl, ?_⟩))
               go_ret
               exact ⟨zz6, zz2⟩
              ·by_cases c69 : t467 = t456
               ·rw [if_pos c69] at H
                have c69b0 : (t467 == t456) = true := beq_iff_eq.mpr c69
                have c69b1 : (t467 != t456) = false := bne_eq_false_iff_eq.mpr c69
                clear c69
                obtain rfl := Option.some.inj H
                go_wp2_with (first | (refine gc (some 95) Try.func41 #[.slice Ao53 t457.length co53, .int .i64 1] ?_; (with_reducible refine (laws_heldBlockS.calls kj51 _ _ t457 1 t467 _ ?side1 ?side2 A67.out).mono ?_); (case side1 => exact zz33 HO_9); (case side2 => exact zz42 HO_9); rintro e w' ⟨rfl, ⟨nd, rfl⟩⟩; refine ⟨_, rfl, ?_⟩))
                go_ret
                exact ⟨zz6, zz2⟩
               ·rw [if_neg c69] at H
                have c69b0 : (t467 == t456) = false := beq_eq_false_iff_ne.mpr c69
                have c69b1 : (t467 != t456) = true := bne_iff_ne.mpr c69
                obtain rfl := Option.some.inj H
                go_wp2_with (first | (refine gc (some 95) Try.func41 #[.slice Ao53 t457.length co53, .int .i64 1] ?_; (with_reducible refine (laws_heldBlockS.calls kj51 _ _ t457 1 t467 _ ?side1 ?side2 A67.out).mono ?_); (case side1 => exact zz33 HO_9); (case side2 => exact zz42 HO_9); rintro e w' ⟨rfl, ⟨nd, rfl⟩⟩; refine ⟨_, rfl, ?_⟩))
                go_ret
                exact ⟨zz6, zz2⟩
          ·rw [if_neg c49] at H
           have c49b0 : (t458 == t456) = false := beq_eq_false_iff_ne.mpr c49
           have c49b1 : (t458 != t456) = true := bne_iff_ne.mpr c49
           obtain rfl := Option.some.inj H
           obtain ⟨Ao70, co70, eo70⟩ := Kd.R_slice HO_9.out
           subst eo70
           go_wp2_with (first | (refine gc (some 68) Try.func40 #[.slice Ao70 t444.length co70, .int .i64 1] ?_; (with_reducible refine (laws_markBlockS.calls kj28 (fun k_ => some k_ = (.slice Ao70 t444.length co70 : Value).ownBlock) (.slice Ao70 t444.length co70) t444 1 t456 t457 w _ ?side1 ?side2 A44.out).mono ?_); (case side1 => exact zz2); (case side2 => exact zz36 HO_9); rintro e w71 ⟨rfl, hy0, hb, hkp⟩; refine ⟨_, rfl, ?_⟩; replace HO_6 := Aside0.mk (Kd.R_mono (ok' := fun k_ => some k_ ≠ (.slice Ao70 t444.length co70 : Value).ownBlock) (Kd.R_keptB (HO_6.out) hkp (fun k_ hk_ hs_ => (hk_) hs_)) (fun k_ hk_ => hk_.1)); replace HO_9 := Aside0.mk (Kd.R_reok rfl hy0 (fun k_ e_ => HO_9.out.1 k_ e_)); replace HB := Aside0.mk hb; clear hb hkp hy0) | ((with_reducible refine gate_callee (f := 41) rfl ?_); refine goesL_ (some 71) rfl rfl Try.func41 (by kernel_rfl) rfl #[.slice Ao70 t457.length co70, .int .i64 1] rfl (zz55 HO_9) ?_; (with_reducible refine (laws_heldBlockS.calls kj28 _ _ t457 1 t458 _ ?side1 ?side2 A45.out).mono ?_); (case side1 => exact zz33 HO_9); (case side2 => exact zz56 HO_9); rintro e w' ⟨rfl, ⟨nd, rfl⟩⟩; refine ⟨_, rfl, ?_⟩))
           go_ret
           exact ⟨zz6, zz2⟩
     ·replace c27 := Bool.eq_false_iff.mpr c27
      subst c27
      have H1 : (some false) = some r := by rw [if_neg (show ¬ (false = true) by decide)] at H; exact H
      clear H
      have H := H1
      clear H1
      obtain rfl := Option.some.inj H
      go_wp2_with (first | (refine gc (some 47) Try.func36 #[.slice A0 l0.length c0] ?_; (with_reducible refine (laws_toWayS.calls kj8 _ _ l0 t449 _ ?side1 ?side2 A25.out).mono ?_); (case side1 => exact zz38 HR0); (case side2 => exact HC0.out); rintro e w72 ⟨v450, rfl, ho0, hb⟩; refine ⟨_, rfl, ?_⟩; replace HO_6 := Aside0.mk (Kd.R_below (zz13 HO_6) hb); replace HO_9 := Aside0.mk (Kd.R_below (zz13 HO_9) hb); have HO451 := Aside0.mk (Kd.R_lower (Kd.R_new' ho0 (Kd.R_lt (zz13 HO_8))) (below_size zz2)); replace HO_8 := Aside0.mk (Kd.R_elder' (zz13 HO_8) (Kd.R_base ho0) hb); replace HB := Aside0.mk (below_step zz2 hb); clear hb ho0; obtain ⟨Ao73, co73, eo73⟩ := Kd.R_slice HO451.out; subst eo73) | (refine gc (some 48) Try.func38 #[.slice Ao14 t441.length co14, .slice Ao73 t449.length co73] ?_; (with_reducible refine (laws_eqWayS.calls kj8 _ _ t441 _ _ t449 false _ ?side1 ?side2 ?side3 ?side4 A26.out).mono ?_); (case side1 => exact zz33 HO_8); (case side2 => exact zz42 HO_8); (case side3 => exact zz33 HO451); (case side4 => exact zz42 HO451); rintro e w74 ⟨rfl, hb⟩; refine ⟨_, rfl, ?_⟩; replace HO_6 := Aside0.mk (Kd.R_below (zz13 HO_6) hb); replace HO_8 := Aside0.mk (Kd.R_below (zz13 HO_8) hb); replace HO_9 := Aside0.mk (Kd.R_below (zz13 HO_9) hb); replace HO451 := Aside0.mk (Kd.R_below (zz13 HO451) hb); replace HB := Aside0.mk (below_step zz2 hb); clear hb))
      go_ret
      exact ⟨zz6, zz2⟩

end Go.Proofs.Ythkjkmgbdahggaa.PW
