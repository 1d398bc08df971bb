/- A text printed by this session's wip/myprint.py over the kit's print: contracts of functions of the given program, each at what its Lean function says. -/
import Derived.Test.YthkjkmgbdahggaaPOx0
import Derived.Test.YthkjkmgbdahggaaPOx2
import Derived.Test.YthkjkmgbdahggaaPOx7
import Derived.Test.YthkjkmgbdahggaaPOx9
import Derived.Test.YthkjkmgbdahggaaPOx12
namespace Go.Proofs.Ythkjkmgbdahggaa.PO
open Go.RowKit Go.Proofs.YthkjkmgbdahggaaW.PrintWords Go.Proofs.YthkjkmgbdahggaaW.PrintLast Go.Proofs.YthkjkmgbdahggaaW.PrintMore Go.Proofs.Ythkjkmgbdahggaa.Sq
attribute [local go_sem] max2_int min2_int max_two min_two max_three min_three max_four min_four   -- for this text's walks alone
set_option linter.unusedVariables false
set_option linter.unusedSimpArgs false

/-! ### laws_FnSetOf: function 5 -/
mutual
def laws_FnSetOf.j0 : Nat → List (S40) → List (S40) → Bool → List (S40) → Bool → Bool → Option (Bool)
 | 0, _, _, _, _, _, _ => none
 | k + 1, x3, x4, x5, x6, x7, x40 => if x40 = true then (if (x5 == x7) = true then ((laws_ovBlocks.f k x4 x6).bind fun t438 => (some t438)) else (some false)) else (laws_FnSetOf.l0 k x3 x4 0)
def laws_FnSetOf.l0 : Nat → List (S40) → List (S40) → Int → Option (Bool)
 | 0, _, _, _ => none
 | k + 1, x3, x4, x8 => if x8 < (x3.length : Int) then (if 0 ≤ x8 then ((impl_SetHas.f k x4 ((rd_T40 x3 x8).f0)).bind fun t440 => (if t440 = true then ((impl_BlockSize.f ((rd_T40 x3 x8).f0) ((rd_T40 x3 x8).f1)).bind fun t443 => ((impl_SetHas.f k x4 (wrap64 ((wrap64 (((rd_T40 x3 x8).f0) + t443)) - 1))).bind fun t444 => (if t444 = true then (laws_FnSetOf.l0 k x3 x4 (wrap64 (x8 + 1))) else (some false)))) else (some false))) else (none)) else (laws_FnSetOf.l1 k x4 1)
def laws_FnSetOf.l1 : Nat → List (S40) → Int → Option (Bool)
 | 0, _, _ => none
 | k + 1, x4, x9 => if x9 < (x4.length : Int) then (if 0 ≤ (wrap64 (x9 - 1)) then (if (wrap64 (x9 - 1)) < (x4.length : Int) then (if 0 ≤ x9 then ((impl_BlockOver.f k ((rd_T40 x4 (wrap64 (x9 - 1))).f0) ((rd_T40 x4 (wrap64 (x9 - 1))).f1) ((rd_T40 x4 x9).f0) ((rd_T40 x4 x9).f1)).bind fun bt453 => (if ((rd_T40 x4 (wrap64 (x9 - 1))).f0) ≥ ((rd_T40 x4 x9).f0) then (some false) else ((impl_BlockMeets.f ((rd_T40 x4 (wrap64 (x9 - 1))).f0) ((rd_T40 x4 (wrap64 (x9 - 1))).f1) ((rd_T40 x4 x9).f0) ((rd_T40 x4 x9).f1)).bind fun t460 => (if t460 = true then (some false) else ((impl_BlockSize.f bt453.1 bt453.2).bind fun t461 => ((impl_BlockSize.f ((rd_T40 x4 (wrap64 (x9 - 1))).f0) ((rd_T40 x4 (wrap64 (x9 - 1))).f1)).bind fun t463 => ((impl_BlockSize.f ((rd_T40 x4 x9).f0) ((rd_T40 x4 x9).f1)).bind fun t465 => (if t461 = (wrap64 (t463 + t465)) then (if ((rd_T40 x4 (wrap64 (x9 - 1))).f1) = ((rd_T40 x4 x9).f1) then (some false) else (laws_FnSetOf.l1 k x4 (wrap64 (x9 + 1)))) else (laws_FnSetOf.l1 k x4 (wrap64 (x9 + 1))))))))))) else (none)) else (none)) else (none)) else ((impl_SetOf.f k x4).bind fun bt445 => ((impl_SetOk.f k x4).bind fun t449 => (if t449 = true then (if bt445.2 = true then ((laws_ovBlocks.f k bt445.1 x4).bind fun t450 => (some t450)) else (some false)) else (some false))))
end
def laws_FnSetOf.f (k : Nat) (l0 : List Int) : Option (Bool) := if (l0.length : Int) > 1048576 then (some true) else ((spec_DrawSetOf.f k l0).bind fun t426 => ((impl_SetOf.f k t426).bind fun bt429 => ((spec_SetOf.f k t426).bind fun bt433 => (if (bt429.2 != bt433.2) = true then (laws_FnSetOf.j0 k t426 bt429.1 bt429.2 bt433.1 bt433.2 true) else ((laws_ovBlocks.f k bt429.1 bt433.1).bind fun t437 => (if t437 = true then (laws_FnSetOf.j0 k t426 bt429.1 bt429.2 bt433.1 bt433.2 (!bt429.2)) else (laws_FnSetOf.j0 k t426 bt429.1 bt429.2 bt433.1 bt433.2 true)))))))
theorem laws_FnSetOf.mono_l : ∀ k, (∀ y0 y1 y2 y3 y4 y5, LeO (laws_FnSetOf.j0 k y0 y1 y2 y3 y4 y5) (laws_FnSetOf.j0 (k + 1) y0 y1 y2 y3 y4 y5)) ∧ (∀ y0 y1 y2, LeO (laws_FnSetOf.l0 k y0 y1 y2) (laws_FnSetOf.l0 (k + 1) y0 y1 y2)) ∧ (∀ y0 y1, LeO (laws_FnSetOf.l1 k y0 y1) (laws_FnSetOf.l1 (k + 1) y0 y1))
 | 0 => ⟨fun _ _ _ _ _ _ r h => by simp [laws_FnSetOf.j0] at h, fun _ _ _ r h => by simp [laws_FnSetOf.l0] at h, fun _ _ r h => by simp [laws_FnSetOf.l1] at h⟩
 | k + 1 => by
  obtain ⟨ih0, ih1, ih2⟩ := laws_FnSetOf.mono_l k
  refine ⟨?_, ?_, ?_⟩
  ·intro y0 y1 y2 y3 y4 y5
   unfold laws_FnSetOf.j0
   repeat' first
   | (with_reducible exact ih0 _ _ _ _ _ _)
   | (with_reducible exact ih1 _ _ _)
   | (with_reducible exact ih2 _ _)
   | (with_reducible exact impl_BlockOver.mono _ _ _ _ _)
   | (with_reducible exact impl_SetHas.mono _ _ _)
   | (with_reducible exact impl_SetOf.mono _ _)
   | (with_reducible exact impl_SetOk.mono _ _)
   | (with_reducible exact laws_ovBlocks.mono _ _ _)
   | (with_reducible exact spec_DrawSetOf.mono _ _)
   | (with_reducible exact spec_SetOf.mono _ _)
   | (with_reducible exact LeO.refl _)
   | (with_reducible exact LeO.none _)
   | (with_reducible refine LeO.ite ?_ ?_)
   | (with_reducible refine LeO.bind ?_ (fun _ => ?_))
   | exact ih0 _ _ _ _ _ _
   | exact ih1 _ _ _
   | exact ih2 _ _
   | exact impl_BlockOver.mono _ _ _ _ _
   | exact impl_SetHas.mono _ _ _
   | exact impl_SetOf.mono _ _
   | exact impl_SetOk.mono _ _
   | exact laws_ovBlocks.mono _ _ _
   | exact spec_DrawSetOf.mono _ _
   | exact spec_SetOf.mono _ _
   | exact LeO.none _
   | refine LeO.ite ?_ ?_
   | refine LeO.bind ?_ (fun _ => ?_)
  ·intro y0 y1 y2
   unfold laws_FnSetOf.l0
   repeat' first
   | (with_reducible exact ih0 _ _ _ _ _ _)
   | (with_reducible exact ih1 _ _ _)
   | (with_reducible exact ih2 _ _)
   | (with_reducible exact impl_BlockOver.mono _ _ _ _ _)
   | (with_reducible exact impl_SetHas.mono _ _ _)
   | (with_reducible exact impl_SetOf.mono _ _)
   | (with_reducible exact impl_SetOk.mono _ _)
   | (with_reducible exact laws_ovBlocks.mono _ _ _)
   | (with_reducible exact spec_DrawSetOf.mono _ _)
   | (with_reducible exact spec_SetOf.mono _ _)
   | (with_reducible exact LeO.refl _)
   | (with_reducible exact LeO.none _)
   | (with_reducible refine LeO.ite ?_ ?_)
   | (with_reducible refine LeO.bind ?_ (fun _ => ?_))
   | exact ih0 _ _ _ _ _ _
   | exact ih1 _ _ _
   | exact ih2 _ _
   | exact impl_BlockOver.mono _ _ _ _ _
   | exact impl_SetHas.mono _ _ _
   | exact impl_SetOf.mono _ _
   | exact impl_SetOk.mono _ _
   | exact laws_ovBlocks.mono _ _ _
   | exact spec_DrawSetOf.mono _ _
   | exact spec_SetOf.mono _ _
   | exact LeO.none _
   | refine LeO.ite ?_ ?_
   | refine LeO.bind ?_ (fun _ => ?_)
  ·intro y0 y1
   unfold laws_FnSetOf.l1
   repeat' first
   | (with_reducible exact ih0 _ _ _ _ _ _)
   | (with_reducible exact ih1 _ _ _)
   | (with_reducible exact ih2 _ _)
   | (with_reducible exact impl_BlockOver.mono _ _ _ _ _)
   | (with_reducible exact impl_SetHas.mono _ _ _)
   | (with_reducible exact impl_SetOf.mono _ _)
   | (with_reducible exact impl_SetOk.mono _ _)
   | (with_reducible exact laws_ovBlocks.mono _ _ _)
   | (with_reducible exact spec_DrawSetOf.mono _ _)
   | (with_reducible exact spec_SetOf.mono _ _)
   | (with_reducible exact LeO.refl _)
   | (with_reducible exact LeO.none _)
   | (with_reducible refine LeO.ite ?_ ?_)
   | (with_reducible refine LeO.bind ?_ (fun _ => ?_))
   | exact ih0 _ _ _ _ _ _
   | exact ih1 _ _ _
   | exact ih2 _ _
   | exact impl_BlockOver.mono _ _ _ _ _
   | exact impl_SetHas.mono _ _ _
   | exact impl_SetOf.mono _ _
   | exact impl_SetOk.mono _ _
   | exact laws_ovBlocks.mono _ _ _
   | exact spec_DrawSetOf.mono _ _
   | exact spec_SetOf.mono _ _
   | exact LeO.none _
   | refine LeO.ite ?_ ?_
   | refine LeO.bind ?_ (fun _ => ?_)
theorem laws_FnSetOf.mono : ∀ a0 k, LeO (laws_FnSetOf.f k a0) (laws_FnSetOf.f (k + 1) a0) := by
 intro a0 k
 obtain ⟨ih0, ih1, ih2⟩ := laws_FnSetOf.mono_l k
 unfold laws_FnSetOf.f
 repeat' first
   | (with_reducible exact ih0 _ _ _ _ _ _)
   | (with_reducible exact ih1 _ _ _)
   | (with_reducible exact ih2 _ _)
   | (with_reducible exact impl_BlockOver.mono _ _ _ _ _)
   | (with_reducible exact impl_SetHas.mono _ _ _)
   | (with_reducible exact impl_SetOf.mono _ _)
   | (with_reducible exact impl_SetOk.mono _ _)
   | (with_reducible exact laws_ovBlocks.mono _ _ _)
   | (with_reducible exact spec_DrawSetOf.mono _ _)
   | (with_reducible exact spec_SetOf.mono _ _)
   | (with_reducible exact LeO.refl _)
   | (with_reducible exact LeO.none _)
   | (with_reducible refine LeO.ite ?_ ?_)
   | (with_reducible refine LeO.bind ?_ (fun _ => ?_))
   | exact ih0 _ _ _ _ _ _
   | exact ih1 _ _ _
   | exact ih2 _ _
   | exact impl_BlockOver.mono _ _ _ _ _
   | exact impl_SetHas.mono _ _ _
   | exact impl_SetOf.mono _ _
   | exact impl_SetOk.mono _ _
   | exact laws_ovBlocks.mono _ _ _
   | exact spec_DrawSetOf.mono _ _
   | exact spec_SetOf.mono _ _
   | exact LeO.none _
   | refine LeO.ite ?_ ?_
   | refine LeO.bind ?_ (fun _ => ?_)
def laws_FnSetOf.T11 : Bool × List (List Nat × List Nat) := (true, [([], []), ([], []), ([], []), ([1, 2], [1, 2]), ([3], [3]), ([4], [4]), ([0, 5], [0, 5]), ([6], [6]), ([7, 6], [7]), ([8], [8]), ([8], [8]), ([8], [8]), ([10, 11, 8], [8, 10, 11]), ([12, 8], [8, 12]), ([13, 8], [8, 13]), ([8], [8]), ([8], [8]), ([15, 16, 8], [8, 15, 16]), ([17, 8], [8, 17]), ([18, 8, 8], [8, 18]), ([14, 19, 8], [8, 14, 19]), ([20, 8], [8, 20]), ([9, 21, 19, 8], [8, 9, 21]), ([22, 8], [8, 22]), ([8, 23], [8, 23])])
def laws_FnSetOf.B11 : List Nat := [0, 0, 0, 6, 14, 30, 63, 127, 255, 511, 511, 511, 3583, 7679, 15871, 511, 511, 98815, 229887, 492031, 1048063, 2096639, 4194303, 8388607, 16777215]
theorem laws_FnSetOf.tab11 : rtab .any (opsOf Try.f5 11) = laws_FnSetOf.T11 := by kernel_rfl
theorem laws_FnSetOf.bits11 : waitsOk laws_FnSetOf.T11.2 laws_FnSetOf.B11 = true := by kernel_rfl
def laws_FnSetOf.T16 : Bool × List (List Nat × List Nat) := (true, [([], []), ([], []), ([1], [1]), ([0, 2], [0, 2]), ([3], [3]), ([], []), ([], []), ([5, 6], [5, 6]), ([7], [7]), ([4, 8], [4, 8]), ([], []), ([10, 9, 9, 0, 1, 2, 3, 4, 5, 6, 7, 8, 9, 10], [9, 10])])
def laws_FnSetOf.B16 : List Nat := [0, 0, 2, 7, 15, 0, 0, 96, 224, 511, 0, 2047]
theorem laws_FnSetOf.tab16 : rtab .any (opsOf Try.f5 16) = laws_FnSetOf.T16 := by kernel_rfl
theorem laws_FnSetOf.bits16 : waitsOk laws_FnSetOf.T16.2 laws_FnSetOf.B16 = true := by kernel_rfl
def laws_FnSetOf.T17 : Bool × List (List Nat × List Nat) := (true, [([], []), ([], []), ([1], [1]), ([0, 2], [0, 2]), ([3], [3]), ([4], [4]), ([], []), ([], []), ([6, 7], [6, 7]), ([8], [8]), ([9], [9]), ([5, 10], [5, 10]), ([11], [11]), ([12], [12]), ([12], [12]), ([14, 12], [12, 14]), ([13, 15, 12], [12, 13, 15]), ([16, 12], [12, 16]), ([12], [12]), ([12], [12]), ([18, 19, 12], [12, 18, 19]), ([20, 12], [12, 20]), ([17, 21, 12, 12], [12, 17, 21]), ([12, 22], [12, 22]), ([23, 22], [23]), ([24], [24]), ([25, 24, 24], [24, 25]), ([24], [24]), ([24], [24]), ([28, 24], [24, 28]), ([27, 29, 24], [24, 27, 29]), ([30, 24], [24, 30]), ([31, 26, 24], [24, 31]), ([24], [24]), ([24], [24]), ([33, 34, 24], [24, 33, 34]), ([35, 24], [24, 35]), ([36, 32, 24], [24, 36]), ([32, 37, 24], [24, 32, 37]), ([26, 38, 24], [24, 26, 38]), ([39, 37, 24], [24, 39]), ([40], [40]), ([40], [40]), ([42, 40], [40, 42]), ([41, 43, 40], [40, 41, 43]), ([44, 40], [40, 44]), ([45, 40], [40, 45]), ([40], [40]), ([40], [40]), ([47, 48, 40], [40, 47, 48]), ([49, 40], [40, 49]), ([50, 40], [40, 50]), ([46, 51, 40], [40, 46, 51]), ([40, 52, 24], [24, 40, 52]), ([24, 53], [24, 53])])
def laws_FnSetOf.B17 : List Nat := [0, 0, 2, 7, 15, 31, 0, 0, 192, 448, 960, 2047, 4095, 8191, 8191, 24575, 65535, 131071, 8191, 8191, 794623, 1843199, 4194303, 8388607, 16777215, 33554431, 67108863, 33554431, 33554431, 301989887, 973078527, 2046820351, 4294967295, 33554431, 33554431, 25803358207, 60163096575, 137438953471, 274877906943, 549755813887, 1099511627775, 2199023255551, 2199023255551, 6597069766655, 17592186044415, 35184372088831, 70368744177663, 2199023255551, 2199023255551, 424411488321535, 987361441742847, 2113261348585471, 4503599627370495, 9007199254740991, 18014398509481983]
theorem laws_FnSetOf.tab17 : rtab .any (opsOf Try.f5 17) = laws_FnSetOf.T17 := by kernel_rfl
theorem laws_FnSetOf.bits17 : waitsOk laws_FnSetOf.T17.2 laws_FnSetOf.B17 = true := by kernel_rfl
set_option maxHeartbeats 8000000 in
set_option maxRecDepth 100000 in
theorem laws_FnSetOf.calls (k : Nat) (A0 : Option Addr) (c0 : Nat) (l0 : List Int) (r : Bool) (w : World) (hr0 : Kd.C (Kd.int .u8) w A0 l0.length l0) (hc0 : l0.length ≤ c0) (h : laws_FnSetOf.f k l0 = some r) :
  Calls Try.prog 5 #[.slice A0 l0.length c0] w fun e w' => e = .returned (.bool r) ∧ Below w.heap.size w w' := by
 have hu40 := Try.underlying40
 have HR0 := Aside0.mk hr0
 have HC0 := Aside0.mk hc0
 clear hr0 hc0
 have HB := Aside0.mk (Below.refl w.heap.size w)
 have H : (if (l0.length : Int) > 1048576 then (some true) else ((spec_DrawSetOf.f k l0).bind fun t426 => ((impl_SetOf.f k t426).bind fun bt429 => ((spec_SetOf.f k t426).bind fun bt433 => (if (bt429.2 != bt433.2) = true then (laws_FnSetOf.j0 k t426 bt429.1 bt429.2 bt433.1 bt433.2 true) else ((laws_ovBlocks.f k bt429.1 bt433.1).bind fun t437 => (if t437 = true then (laws_FnSetOf.j0 k t426 bt429.1 bt429.2 bt433.1 bt433.2 (!bt429.2)) else (laws_FnSetOf.j0 k t426 bt429.1 bt429.2 bt433.1 bt433.2 true)))))))) = some r := h
 clear h
 by_cases c2 : (l0.length : Int) > 1048576
 ·rw [if_pos c2] at H
  have c2b0 : decide (1048576 < (l0.length : Int)) = true := decide_eq_true c2
  have c2b1 : decide (1048576 < l0.length) = true := decide_eq_true (by omega)
  clear c2
  obtain rfl := Option.some.inj H
  go_enter Try.func5, Try.ntmps5
  go_wp2
  go_ret
  exact ⟨zz8, zz5⟩
 ·rw [if_neg c2] at H
  have c2b0 : decide (1048576 < (l0.length : Int)) = false := decide_eq_false c2
  have c2b1 : decide (1048576 < l0.length) = false := decide_eq_false (by omega)
  clear c2
  replace H := bd H
  obtain ⟨t426, A3, H⟩ := H
  replace H : ((impl_SetOf.f k t426).bind fun bt429 => ((spec_SetOf.f k t426).bind fun bt433 => (if (bt429.2 != bt433.2) = true then (laws_FnSetOf.j0 k t426 bt429.1 bt429.2 bt433.1 bt433.2 true) else ((laws_ovBlocks.f k bt429.1 bt433.1).bind fun t437 => (if t437 = true then (laws_FnSetOf.j0 k t426 bt429.1 bt429.2 bt433.1 bt433.2 (!bt429.2)) else (laws_FnSetOf.j0 k t426 bt429.1 bt429.2 bt433.1 bt433.2 true)))))) = some r := H
  replace H := bd H
  obtain ⟨⟨t429, t430⟩, A4, H⟩ := H
  replace H : ((spec_SetOf.f k t426).bind fun bt433 => (if (t430 != bt433.2) = true then (laws_FnSetOf.j0 k t426 t429 t430 bt433.1 bt433.2 true) else ((laws_ovBlocks.f k t429 bt433.1).bind fun t437 => (if t437 = true then (laws_FnSetOf.j0 k t426 t429 t430 bt433.1 bt433.2 (!t430)) else (laws_FnSetOf.j0 k t426 t429 t430 bt433.1 bt433.2 true))))) = some r := H
  replace H := bd H
  obtain ⟨⟨t433, t434⟩, A5, H⟩ := H
  replace H : (if (t430 != t434) = true then (laws_FnSetOf.j0 k t426 t429 t430 t433 t434 true) else ((laws_ovBlocks.f k t429 t433).bind fun t437 => (if t437 = true then (laws_FnSetOf.j0 k t426 t429 t430 t433 t434 (!t430)) else (laws_FnSetOf.j0 k t426 t429 t430 t433 t434 true)))) = some r := H
  have HC6 := Aside0.mk H
  clear H
  go_enter Try.func5, Try.ntmps5
  go_upto_region 6 with (first | (refine gc (some 17) Try.func20 #[.slice A0 l0.length c0] ?_; (with_reducible refine (spec_DrawSetOf.calls k _ _ l0 t426 _ ?side1 ?side2 A3.out).mono ?_); (case side1 => exact zz9 HR0); (case side2 => exact HC0.out); rintro e w7 ⟨v427, rfl, ho0, hb⟩; refine ⟨_, rfl, ?_⟩; have HO428 := Aside0.mk (Kd.R_lower ho0 (below_size zz5)); replace HB := Aside0.mk (below_step zz5 hb); clear hb ho0; obtain ⟨Ao8, co8, eo8⟩ := Kd.R_slice HO428.out; subst eo8) | (refine gc (some 20) Try.func21 #[.slice Ao8 t426.length co8] ?_; (with_reducible refine (impl_SetOf.calls k _ _ t426 t429 t430 _ ?side1 ?side2 A4.out).mono ?_); (case side1 => exact zz19 HO428); (case side2 => exact zz22 HO428); rintro e w9 ⟨v431, rfl, ho0, hb⟩; refine ⟨_, rfl, ?_⟩; have HO432 := Aside0.mk (Kd.R_lower (Kd.R_new' ho0 (Kd.R_lt (zz12 HO428))) (below_size zz5)); replace HO428 := Aside0.mk (Kd.R_elder' (zz12 HO428) (Kd.R_base ho0) hb); replace HB := Aside0.mk (below_step zz5 hb); clear hb ho0) | (refine gc (some 25) Try.func22 #[.slice Ao8 t426.length co8] ?_; (with_reducible refine (spec_SetOf.calls k _ _ t426 t433 t434 _ ?side1 ?side2 A5.out).mono ?_); (case side1 => exact zz19 HO428); (case side2 => exact zz22 HO428); rintro e w10 ⟨v435, rfl, ho0, hb⟩; refine ⟨_, rfl, ?_⟩; have HO436 := Aside0.mk (Kd.R_lower (Kd.R_new' (Kd.R_new' ho0 (Kd.R_lt (zz12 HO428))) (Kd.R_lt (zz12 HO432))) (below_size zz5)); replace HO428 := Aside0.mk (Kd.R_elder' (zz12 HO428) (Kd.R_base ho0) hb); replace HO432 := Aside0.mk (Kd.R_elder' (zz12 HO432) (Kd.R_base ho0) hb); replace HB := Aside0.mk (below_step zz5 hb); clear hb ho0))
  (try simp only [Act.put, List.setIfInBounds_toArray, List.set_cons_zero, List.set_cons_succ])
  go_cut [40] (fun v40 wc => ∃ (kq : Nat) (x40_5 : Bool), v40 = .bool x40_5 ∧ Aside0 (laws_FnSetOf.j0 kq t426 t429 t430 t433 t434 x40_5 = some r) ∧ Aside0 (kq ≤ k) ∧ Aside0 (Kd.R k40 40 wc w.heap.size (fun k_ => some k_ ≠ (v431 : Value).ownBlock ∧ some k_ ≠ (v435 : Value).ownBlock) (.slice Ao8 t426.length co8) t426) ∧ Aside0 (Kd.R k40 40 wc w.heap.size (fun k_ => some k_ ≠ ((.slice Ao8 t426.length co8) : Value).ownBlock ∧ some k_ ≠ (v435 : Value).ownBlock) v431 t429) ∧ Aside0 (Kd.R k40 40 wc w.heap.size (fun k_ => some k_ ≠ ((.slice Ao8 t426.length co8) : Value).ownBlock ∧ some k_ ≠ (v431 : Value).ownBlock) v435 t433) ∧ Aside0 (Below w.heap.size w wc))
  case first =>
   have H := HC6.out
   clear HC6
   by_cases c11 : (t430 != t434) = true
   ·rw [if_pos c11] at H
    have c11b0 : (t430 != t434) = true := c11
    (try (have c11b1 : decide (t430 = t434) = false := by simpa using c11))
    (try (have c11b2 : (t430 == t434) = false := by simpa using c11))
    (try (have c11b3 : ¬ (t430 = t434) := by simpa using c11))
    clear c11
    (first | rw [c11b0] | (simp only [i64_w, i32_w]; rw [c11b0]) | skip)
    have H' := Aside0.mk H
    clear H
    go_wp2
    go_meet
    case rel => exact ⟨_, (true), zz1, H', ⟨zz25⟩, ⟨zz46 HO428⟩, ⟨zz46 HO432⟩, ⟨zz46 HO436⟩, ⟨zz5⟩⟩
   ·rw [if_neg c11] at H
    have c11b0 : (t430 != t434) = false := by simpa using c11
    (try (have c11b1 : decide (t430 = t434) = true := by simpa using c11))
    (try (have c11b2 : (t430 == t434) = true := by simpa using c11))
    clear c11
    (first | rw [c11b0] | (simp only [i64_w, i32_w]; rw [c11b0]) | skip)
    replace H := bd H
    obtain ⟨t437, A12, H⟩ := H
    replace H : (if t437 = true then (laws_FnSetOf.j0 k t426 t429 t430 t433 t434 (!t430)) else (laws_FnSetOf.j0 k t426 t429 t430 t433 t434 true)) = some r := H
    by_cases c13 : t437 = true
    ·subst c13
     have H1 : (laws_FnSetOf.j0 k t426 t429 t430 t433 t434 (!t430)) = some r := by rw [if_pos rfl] at H; exact H
     clear H
     have H := H1
     clear H1
     have H' := Aside0.mk H
     clear H
     obtain ⟨Ao14, co14, eo14⟩ := Kd.R_slice HO432.out
     subst eo14
     obtain ⟨Ao15, co15, eo15⟩ := Kd.R_slice HO436.out
     subst eo15
     go_wp2_with (first | (go_at_call 11; (with_reducible refine (laws_ovBlocks.calls k _ _ t429 _ _ t433 true _ ?side1 ?side2 ?side3 ?side4 A12.out).mono ?_); (case side1 => exact zz19 HO432); (case side2 => exact zz22 HO432); (case side3 => exact zz19 HO436); (case side4 => exact zz22 HO436); rintro e w' ⟨rfl, ⟨nd, rfl⟩⟩))
     go_meet
     case rel => exact ⟨_, (!t430), zz1, H', ⟨zz25⟩, ⟨zz46 HO428⟩, ⟨zz46 HO432⟩, ⟨zz46 HO436⟩, ⟨zz5⟩⟩
    ·replace c13 := Bool.eq_false_iff.mpr c13
     subst c13
     have H1 : (laws_FnSetOf.j0 k t426 t429 t430 t433 t434 true) = some r := by rw [if_neg (show ¬ (false = true) by decide)] at H; exact H
     clear H
     have H := H1
     clear H1
     have H' := Aside0.mk H
     clear H
     obtain ⟨Ao16, co16, eo16⟩ := Kd.R_slice HO432.out
     subst eo16
     obtain ⟨Ao17, co17, eo17⟩ := Kd.R_slice HO436.out
     subst eo17
     go_wp2_with (first | (go_at_call 11; (with_reducible refine (laws_ovBlocks.calls k _ _ t429 _ _ t433 false _ ?side1 ?side2 ?side3 ?side4 A12.out).mono ?_); (case side1 => exact zz19 HO432); (case side2 => exact zz22 HO432); (case side3 => exact zz19 HO436); (case side4 => exact zz22 HO436); rintro e w' ⟨rfl, ⟨nd, rfl⟩⟩))
     go_meet
     case rel => exact ⟨_, (true), zz1, H', ⟨zz25⟩, ⟨zz46 HO428⟩, ⟨zz46 HO432⟩, ⟨zz46 HO436⟩, ⟨zz5⟩⟩
  case rest =>
   clear HC6
   try clear c1
   try clear c2
   try clear c2b0
   try clear c2b1
   try clear p2
   try clear c5
   try clear c11
   try clear c11b0
   try clear c11b1
   try clear c11b2
   try clear c13
   obtain ⟨kq, x40_5, rfl, HA, HJ5, HO_3, HO_4, HO_6, HB⟩ := hcut
   cases kq with
   | zero => exact absurd HA.out (by simp [laws_FnSetOf.j0])
   | succ kj5 =>
    have H := HA.out
    clear HA
    simp only [laws_FnSetOf.j0] at H
    by_cases c18 : x40_5 = true
    ·subst c18
     have H1 : (if (t430 == t434) = true then ((laws_ovBlocks.f kj5 t429 t433).bind fun t438 => (some t438)) else (some false)) = some r := by rw [if_pos rfl] at H; exact H
     clear H
     have H := H1
     clear H1
     by_cases c19 : (t430 == t434) = true
     ·rw [if_pos c19] at H
      have c19b0 : (t430 == t434) = true := c19
      (try (have c19b1 : decide (t430 = t434) = true := by simpa using c19))
      (try (have c19b2 : (t430 == t434) = true := by simpa using c19))
      clear c19
      replace H := bd H
      obtain ⟨t438, A20, H⟩ := H
      replace H : (some t438) = some r := H
      obtain rfl := Option.some.inj H
      obtain ⟨Ao21, co21, eo21⟩ := Kd.R_slice HO_4.out
      subst eo21
      obtain ⟨Ao22, co22, eo22⟩ := Kd.R_slice HO_6.out
      subst eo22
      go_wp2_with (first | (go_at_call 11; (with_reducible refine (laws_ovBlocks.calls kj5 _ _ t429 _ _ t433 t438 _ ?side1 ?side2 ?side3 ?side4 A20.out).mono ?_); (case side1 => exact zz19 HO_4); (case side2 => exact zz22 HO_4); (case side3 => exact zz19 HO_6); (case side4 => exact zz22 HO_6); rintro e w' ⟨rfl, ⟨nd, rfl⟩⟩))
      go_ret
      exact ⟨zz8, zz5⟩
     ·rw [if_neg c19] at H
      have c19b0 : (t430 == t434) = false := by simpa using c19
      (try (have c19b1 : decide (t430 = t434) = false := by simpa using c19))
      (try (have c19b2 : (t430 == t434) = false := by simpa using c19))
      (try (have c19b3 : ¬ (t430 = t434) := by simpa using c19))
      clear c19
      obtain rfl := Option.some.inj H
      go_wp2
      go_ret
      exact ⟨zz8, zz5⟩
    ·replace c18 := Bool.eq_false_iff.mpr c18
     subst c18
     have H1 : (laws_FnSetOf.l0 kj5 t426 t429 0) = some r := by rw [if_neg (show ¬ (false = true) by decide)] at H; exact H
     clear H
     have H := H1
     clear H1
     have H' := Aside0.mk H
     clear H
     go_wp2
     go_loopg [8] kj5 (fun kq v8 w' => ∃ (x8_2 : Int), v8 = .int .i64 x8_2 ∧ Aside0 (laws_FnSetOf.l0 kq t426 t429 x8_2 = some r) ∧ Aside0 (kq ≤ kj5) ∧ Aside0 (Kd.R k40 40 w' w.heap.size (fun k_ => some k_ ≠ (v431 : Value).ownBlock) (.slice Ao8 t426.length co8) t426) ∧ Aside0 (Kd.R k40 40 w' w.heap.size (fun k_ => some k_ ≠ ((.slice Ao8 t426.length co8) : Value).ownBlock) v431 t429) ∧ Aside0 (Below w.heap.size w w'))
     case atStart => exact ⟨(0), zz1, H', ⟨Nat.le_refl _⟩, ⟨zz58 HO_3⟩, ⟨zz58 HO_4⟩, ⟨zz5⟩⟩
     case round =>
      clear H'
      try clear c1
      try clear c2
      try clear c2b0
      try clear c2b1
      try clear p2
      try clear c5
      try clear c11
      try clear c11b0
      try clear c11b1
      try clear c11b2
      try clear c13
      try clear c18
      try clear c19
      try clear c19b0
      try clear c19b1
      try clear c19b2
      try clear c20
      try clear c21
      try clear c22
      try clear p2
      obtain ⟨x8_2, rfl, HA, HK2, HO_3, HO_4, HB⟩ := hrel
      cases gk with
      | zero => exact absurd HA.out (by simp [laws_FnSetOf.l0])
      | succ k2 =>
       have H := HA.out
       clear HA
       simp only [laws_FnSetOf.l0] at H
       replace H := ic H
       rcases H with ⟨c23b0, H⟩ | ⟨c23b0, H⟩
       ·replace H := gd H
        obtain ⟨c24b0, H⟩ := H
        replace H := bd H
        obtain ⟨t440, A25, H⟩ := H
        replace H : (if t440 = true then ((impl_BlockSize.f ((rd_T40 t426 x8_2).f0) ((rd_T40 t426 x8_2).f1)).bind fun t443 => ((impl_SetHas.f k2 t429 (wrap64 ((wrap64 (((rd_T40 t426 x8_2).f0) + t443)) - 1))).bind fun t444 => (if t444 = true then (laws_FnSetOf.l0 k2 t426 t429 (wrap64 (x8_2 + 1))) else (some false)))) else (some false)) = some r := H
        by_cases c26 : t440 = true
        ·subst c26
         have H1 : ((impl_BlockSize.f ((rd_T40 t426 x8_2).f0) ((rd_T40 t426 x8_2).f1)).bind fun t443 => ((impl_SetHas.f k2 t429 (wrap64 ((wrap64 (((rd_T40 t426 x8_2).f0) + t443)) - 1))).bind fun t444 => (if t444 = true then (laws_FnSetOf.l0 k2 t426 t429 (wrap64 (x8_2 + 1))) else (some false)))) = some r := by rw [if_pos rfl] at H; exact H
         clear H
         have H := H1
         clear H1
         replace H := bd H
         obtain ⟨t443, A27, H⟩ := H
         replace H : ((impl_SetHas.f k2 t429 (wrap64 ((wrap64 (((rd_T40 t426 x8_2).f0) + t443)) - 1))).bind fun t444 => (if t444 = true then (laws_FnSetOf.l0 k2 t426 t429 (wrap64 (x8_2 + 1))) else (some false))) = some r := H
         replace H := bd H
         obtain ⟨t444, A28, H⟩ := H
         replace H : (if t444 = true then (laws_FnSetOf.l0 k2 t426 t429 (wrap64 (x8_2 + 1))) else (some false)) = some r := H
         by_cases c29 : t444 = true
         ·subst c29
          have H1 : (laws_FnSetOf.l0 k2 t426 t429 (wrap64 (x8_2 + 1))) = some r := by rw [if_pos rfl] at H; exact H
          clear H
          have H := H1
          clear H1
          have H' := Aside0.mk H
          clear H
          try go_wp2
          replace HO_3 := Aside0.mk (Kd.R_drew HO_3.out)
          replace HO_4 := Aside0.mk (Kd.R_drew HO_4.out)
          replace HB := Aside0.mk (below_drew1 HB.out)
          obtain ⟨⟨ad439, e439, hx439_0, hx439_1⟩, p439, q439⟩ := wi (at_T40 (Kd.R_reads' HO_3.out).2.2 x8_2)
          cases e439
          obtain ⟨Ao31, co31, eo31⟩ := Kd.R_slice HO_4.out
          (first | subst eo31 | (injection eo31 with f1_ f2_ f3_; have f4_ := f1_.symm; have f5_ := f3_.symm; clear f1_ f2_ f3_; subst f4_; subst f5_))
          obtain ⟨⟨ad441, e441, hx441_0, hx441_1⟩, p441, q441⟩ := wi (at_T40 (Kd.R_reads' HO_3.out).2.2 x8_2)
          obtain rfl : ad439 = ad441 := (by injection e441)
          obtain ⟨⟨ad442, e442, hx442_0, hx442_1⟩, p442, q442⟩ := wi (at_T40 (Kd.R_reads' HO_3.out).2.2 x8_2)
          obtain rfl : ad439 = ad442 := (by injection e442)
          refine start_ (n := 25) (S := fun w' => w'.cell? (ad439.add ((x8_2).toNat * 2)) = some (.int .i64 ((rd_T40 t426 x8_2).f0)) ∧ w'.cell? ⟨(ad439.add ((x8_2).toNat * 2)).block, (ad439.add ((x8_2).toNat * 2)).off + 1, none⟩ = some (.int .i64 ((rd_T40 t426 x8_2).f1)) ∧ w'.cell? (ad439.add ((x8_2).toNat * 2)) = some (.int .i64 ((rd_T40 t426 x8_2).f0)) ∧ w'.cell? ⟨(ad439.add ((x8_2).toNat * 2)).block, (ad439.add ((x8_2).toNat * 2)).off + 1, none⟩ = some (.int .i64 ((rd_T40 t426 x8_2).f1)) ∧ w'.cell? (ad439.add ((x8_2).toNat * 2)) = some (.int .i64 ((rd_T40 t426 x8_2).f0)) ∧ w'.cell? ⟨(ad439.add ((x8_2).toNat * 2)).block, (ad439.add ((x8_2).toNat * 2)).off + 1, none⟩ = some (.int .i64 ((rd_T40 t426 x8_2).f1))) (ds := []) (bm 25 0) (by kernel_rfl) rfl rfl ⟨hx439_0, hx439_1, hx441_0, hx441_1, hx442_0, hx442_1⟩ (fun hHeld => ?_); refine with_tabW laws_FnSetOf.tab11 laws_FnSetOf.bits11 (fun HT_ HW_ => ?_)
          generalize wr.drew = w30 at HO_3 HO_4 HB hx439_0 hx439_1 hx441_0 hx441_1 hx442_0 hx442_1 hHeld ⊢
          refine pu 0 55 (bm 25 1) ?_
          refine pu 1 56 (bm 25 3) ?_
          refine pu 2 57 (bm 25 7) ?_
          refine pu 3 58 (bm 25 15) ?_
          refine pu 4 59 (bm 25 31) ?_
          refine tk 5 60 (bm 25 63) ?_
          refine on 6 (some 61) (bm 25 127) (fun K hK => ?_)
          refine gs Try.func15 #[.slice Ao31 t429.length co31, .int .i64 ((rd_T40 t426 x8_2).f0)] ?_
          with_reducible refine (impl_SetHas.calls k2 _ _ t429 ((rd_T40 t426 x8_2).f0) true _ ?side1 ?side2 A25.out).mono ?_
          (case side1 => exact zz19 HO_4)
          (case side2 => exact zz22 HO_4)
          rintro e w32 ⟨rfl, hb⟩
          have HS0_ := (hb.cell (World.block_lt_of_cell? _ _ (hHeld.1))).trans (hHeld.1)
          have HS1_ := (hb.cell (World.block_lt_of_cell? _ _ (hHeld.2.1))).trans (hHeld.2.1)
          have HS2_ := (hb.cell (World.block_lt_of_cell? _ _ (hHeld.2.2.1))).trans (hHeld.2.2.1)
          have HS3_ := (hb.cell (World.block_lt_of_cell? _ _ (hHeld.2.2.2.1))).trans (hHeld.2.2.2.1)
          have HS4_ := (hb.cell (World.block_lt_of_cell? _ _ (hHeld.2.2.2.2.1))).trans (hHeld.2.2.2.2.1)
          have HS5_ := (hb.cell (World.block_lt_of_cell? _ _ (hHeld.2.2.2.2.2))).trans (hHeld.2.2.2.2.2)
          refine ⟨_, rfl, ?_⟩
          replace HO_3 := Aside0.mk (Kd.R_below (zz12 HO_3) hb)
          replace HO_4 := Aside0.mk (Kd.R_below (zz12 HO_4) hb)
          replace HB := Aside0.mk (below_step zz5 hb)
          (try clear hb)
          (try clear hb2)
          (try clear hk)
          (try clear hi)
          refine hK.out _ _ ⟨HS0_, HS1_, HS2_, HS3_, HS4_, HS5_⟩ (fun hHeld => ?_)
          clear hK K
          refine nm 61 ?_
          refine pu 7 62 (bm 25 255) ?_
          refine pu 8 63 (bm 25 511) ?_
          refine pu 9 64 (bm 25 1023) ?_
          refine pu 10 65 (bm 25 2047) ?_
          refine pu 11 66 (bm 25 4095) ?_
          refine pu 12 67 (bm 25 8191) ?_
          refine pu 13 68 (bm 25 16383) ?_
          refine pu 15 70 (bm 25 49151) ?_
          refine pu 16 71 (bm 25 114687) ?_
          refine pu 17 72 (bm 25 245759) ?_
          refine tk 14 69 (bm 25 262143) ?_
          refine tk 18 73 (bm 25 524287) ?_
          refine on 19 (some 74) (bm 25 1048575) (fun K hK => ?_)
          refine gs Try.func23 #[.agg #[.int .i64 ((rd_T40 t426 x8_2).f0), .int .i64 ((rd_T40 t426 x8_2).f1)]] ?_
          with_reducible refine (impl_BlockSize.calls ((rd_T40 t426 x8_2).f0) ((rd_T40 t426 x8_2).f1) t443 _ A27.out).mono ?_
          rintro e w33 ⟨rfl, hb⟩
          have HS0_ := (hb.cell (World.block_lt_of_cell? _ _ (hHeld.1))).trans (hHeld.1)
          have HS1_ := (hb.cell (World.block_lt_of_cell? _ _ (hHeld.2.1))).trans (hHeld.2.1)
          have HS2_ := (hb.cell (World.block_lt_of_cell? _ _ (hHeld.2.2.1))).trans (hHeld.2.2.1)
          have HS3_ := (hb.cell (World.block_lt_of_cell? _ _ (hHeld.2.2.2.1))).trans (hHeld.2.2.2.1)
          have HS4_ := (hb.cell (World.block_lt_of_cell? _ _ (hHeld.2.2.2.2.1))).trans (hHeld.2.2.2.2.1)
          have HS5_ := (hb.cell (World.block_lt_of_cell? _ _ (hHeld.2.2.2.2.2))).trans (hHeld.2.2.2.2.2)
          refine ⟨_, rfl, ?_⟩
          replace HO_3 := Aside0.mk (Kd.R_below (zz12 HO_3) hb)
          replace HO_4 := Aside0.mk (Kd.R_below (zz12 HO_4) hb)
          replace HB := Aside0.mk (below_step zz5 hb)
          (try clear hb)
          (try clear hb2)
          (try clear hk)
          (try clear hi)
          refine hK.out _ _ ⟨HS0_, HS1_, HS2_, HS3_, HS4_, HS5_⟩ (fun hHeld => ?_)
          clear hK K
          refine nm 74 ?_
          refine pu 20 75 (bm 25 2097151) ?_
          refine pu 21 76 (bm 25 4194303) ?_
          refine on 22 (some 77) (bm 25 8388607) (fun K hK => ?_)
          refine gs Try.func15 #[.slice Ao31 t429.length co31, .int .i64 (wrap64 ((wrap64 (((rd_T40 t426 x8_2).f0) + t443)) - 1))] ?_
          with_reducible refine (impl_SetHas.calls k2 _ _ t429 (wrap64 ((wrap64 (((rd_T40 t426 x8_2).f0) + t443)) - 1)) true _ ?side1 ?side2 A28.out).mono ?_
          (case side1 => exact zz19 HO_4)
          (case side2 => exact zz22 HO_4)
          rintro e w34 ⟨rfl, hb⟩
          have HS0_ := (hb.cell (World.block_lt_of_cell? _ _ (hHeld.1))).trans (hHeld.1)
          have HS1_ := (hb.cell (World.block_lt_of_cell? _ _ (hHeld.2.1))).trans (hHeld.2.1)
          have HS2_ := (hb.cell (World.block_lt_of_cell? _ _ (hHeld.2.2.1))).trans (hHeld.2.2.1)
          have HS3_ := (hb.cell (World.block_lt_of_cell? _ _ (hHeld.2.2.2.1))).trans (hHeld.2.2.2.1)
          have HS4_ := (hb.cell (World.block_lt_of_cell? _ _ (hHeld.2.2.2.2.1))).trans (hHeld.2.2.2.2.1)
          have HS5_ := (hb.cell (World.block_lt_of_cell? _ _ (hHeld.2.2.2.2.2))).trans (hHeld.2.2.2.2.2)
          refine ⟨_, rfl, ?_⟩
          replace HO_3 := Aside0.mk (Kd.R_below (zz12 HO_3) hb)
          replace HO_4 := Aside0.mk (Kd.R_below (zz12 HO_4) hb)
          replace HB := Aside0.mk (below_step zz5 hb)
          (try clear hb)
          (try clear hb2)
          (try clear hk)
          (try clear hi)
          refine hK.out _ _ ⟨HS0_, HS1_, HS2_, HS3_, HS4_, HS5_⟩ (fun hHeld => ?_)
          clear hK K
          refine nm 77 ?_
          refine pu 23 78 (bm 25 16777215) ?_
          refine pu 24 79 (bm 25 33554431) ?_
          refine done_ (done_of HT_.out (by kernel_rfl)) ?_
          try go_wp2
          go_roundg k2
          case measure => have := HJ5.out; have := HK2.out; omega
          case rel => exact ⟨(wrap64 (x8_2 + 1)), zz1, H', ⟨by have := HJ5.out; have := HK2.out; omega⟩, ⟨zz12 HO_3⟩, ⟨zz12 HO_4⟩, ⟨zz5⟩⟩
         ·replace c29 := Bool.eq_false_iff.mpr c29
          subst c29
          have H1 : (some false) = some r := by rw [if_neg (show ¬ (false = true) by decide)] at H; exact H
          clear H
          have H := H1
          clear H1
          obtain rfl := Option.some.inj H
          try go_wp2
          replace HO_3 := Aside0.mk (Kd.R_drew HO_3.out)
          replace HO_4 := Aside0.mk (Kd.R_drew HO_4.out)
          replace HB := Aside0.mk (below_drew1 HB.out)
          obtain ⟨⟨ad439, e439, hx439_0, hx439_1⟩, p439, q439⟩ := wi (at_T40 (Kd.R_reads' HO_3.out).2.2 x8_2)
          cases e439
          obtain ⟨Ao36, co36, eo36⟩ := Kd.R_slice HO_4.out
          (first | subst eo36 | (injection eo36 with f1_ f2_ f3_; have f4_ := f1_.symm; have f5_ := f3_.symm; clear f1_ f2_ f3_; subst f4_; subst f5_))
          obtain ⟨⟨ad441, e441, hx441_0, hx441_1⟩, p441, q441⟩ := wi (at_T40 (Kd.R_reads' HO_3.out).2.2 x8_2)
          obtain rfl : ad439 = ad441 := (by injection e441)
          obtain ⟨⟨ad442, e442, hx442_0, hx442_1⟩, p442, q442⟩ := wi (at_T40 (Kd.R_reads' HO_3.out).2.2 x8_2)
          obtain rfl : ad439 = ad442 := (by injection e442)
          refine start_ (n := 25) (S := fun w' => w'.cell? (ad439.add ((x8_2).toNat * 2)) = some (.int .i64 ((rd_T40 t426 x8_2).f0)) ∧ w'.cell? ⟨(ad439.add ((x8_2).toNat * 2)).block, (ad439.add ((x8_2).toNat * 2)).off + 1, none⟩ = some (.int .i64 ((rd_T40 t426 x8_2).f1)) ∧ w'.cell? (ad439.add ((x8_2).toNat * 2)) = some (.int .i64 ((rd_T40 t426 x8_2).f0)) ∧ w'.cell? ⟨(ad439.add ((x8_2).toNat * 2)).block, (ad439.add ((x8_2).toNat * 2)).off + 1, none⟩ = some (.int .i64 ((rd_T40 t426 x8_2).f1)) ∧ w'.cell? (ad439.add ((x8_2).toNat * 2)) = some (.int .i64 ((rd_T40 t426 x8_2).f0)) ∧ w'.cell? ⟨(ad439.add ((x8_2).toNat * 2)).block, (ad439.add ((x8_2).toNat * 2)).off + 1, none⟩ = some (.int .i64 ((rd_T40 t426 x8_2).f1))) (ds := []) (bm 25 0) (by kernel_rfl) rfl rfl ⟨hx439_0, hx439_1, hx441_0, hx441_1, hx442_0, hx442_1⟩ (fun hHeld => ?_); refine with_tabW laws_FnSetOf.tab11 laws_FnSetOf.bits11 (fun HT_ HW_ => ?_)
          generalize wr.drew = w35 at HO_3 HO_4 HB hx439_0 hx439_1 hx441_0 hx441_1 hx442_0 hx442_1 hHeld ⊢
          refine pu 0 55 (bm 25 1) ?_
          refine pu 1 56 (bm 25 3) ?_
          refine pu 2 57 (bm 25 7) ?_
          refine pu 3 58 (bm 25 15) ?_
          refine pu 4 59 (bm 25 31) ?_
          refine tk 5 60 (bm 25 63) ?_
          refine on 6 (some 61) (bm 25 127) (fun K hK => ?_)
          refine gs Try.func15 #[.slice Ao36 t429.length co36, .int .i64 ((rd_T40 t426 x8_2).f0)] ?_
          with_reducible refine (impl_SetHas.calls k2 _ _ t429 ((rd_T40 t426 x8_2).f0) true _ ?side1 ?side2 A25.out).mono ?_
          (case side1 => exact zz19 HO_4)
          (case side2 => exact zz22 HO_4)
          rintro e w37 ⟨rfl, hb⟩
          have HS0_ := (hb.cell (World.block_lt_of_cell? _ _ (hHeld.1))).trans (hHeld.1)
          have HS1_ := (hb.cell (World.block_lt_of_cell? _ _ (hHeld.2.1))).trans (hHeld.2.1)
          have HS2_ := (hb.cell (World.block_lt_of_cell? _ _ (hHeld.2.2.1))).trans (hHeld.2.2.1)
          have HS3_ := (hb.cell (World.block_lt_of_cell? _ _ (hHeld.2.2.2.1))).trans (hHeld.2.2.2.1)
          have HS4_ := (hb.cell (World.block_lt_of_cell? _ _ (hHeld.2.2.2.2.1))).trans (hHeld.2.2.2.2.1)
          have HS5_ := (hb.cell (World.block_lt_of_cell? _ _ (hHeld.2.2.2.2.2))).trans (hHeld.2.2.2.2.2)
          refine ⟨_, rfl, ?_⟩
          replace HO_3 := Aside0.mk (Kd.R_below (zz12 HO_3) hb)
          replace HO_4 := Aside0.mk (Kd.R_below (zz12 HO_4) hb)
          replace HB := Aside0.mk (below_step zz5 hb)
          (try clear hb)
          (try clear hb2)
          (try clear hk)
          (try clear hi)
          refine hK.out _ _ ⟨HS0_, HS1_, HS2_, HS3_, HS4_, HS5_⟩ (fun hHeld => ?_)
          clear hK K
          refine nm 61 ?_
          refine pu 7 62 (bm 25 255) ?_
          refine pu 8 63 (bm 25 511) ?_
          refine pu 9 64 (bm 25 1023) ?_
          refine pu 10 65 (bm 25 2047) ?_
          refine pu 11 66 (bm 25 4095) ?_
          refine pu 12 67 (bm 25 8191) ?_
          refine pu 13 68 (bm 25 16383) ?_
          refine pu 15 70 (bm 25 49151) ?_
          refine pu 16 71 (bm 25 114687) ?_
          refine pu 17 72 (bm 25 245759) ?_
          refine tk 14 69 (bm 25 262143) ?_
          refine tk 18 73 (bm 25 524287) ?_
          refine on 19 (some 74) (bm 25 1048575) (fun K hK => ?_)
          refine gs Try.func23 #[.agg #[.int .i64 ((rd_T40 t426 x8_2).f0), .int .i64 ((rd_T40 t426 x8_2).f1)]] ?_
          with_reducible refine (impl_BlockSize.calls ((rd_T40 t426 x8_2).f0) ((rd_T40 t426 x8_2).f1) t443 _ A27.out).mono ?_
          rintro e w38 ⟨rfl, hb⟩
          have HS0_ := (hb.cell (World.block_lt_of_cell? _ _ (hHeld.1))).trans (hHeld.1)
          have HS1_ := (hb.cell (World.block_lt_of_cell? _ _ (hHeld.2.1))).trans (hHeld.2.1)
          have HS2_ := (hb.cell (World.block_lt_of_cell? _ _ (hHeld.2.2.1))).trans (hHeld.2.2.1)
          have HS3_ := (hb.cell (World.block_lt_of_cell? _ _ (hHeld.2.2.2.1))).trans (hHeld.2.2.2.1)
          have HS4_ := (hb.cell (World.block_lt_of_cell? _ _ (hHeld.2.2.2.2.1))).trans (hHeld.2.2.2.2.1)
          have HS5_ := (hb.cell (World.block_lt_of_cell? _ _ (hHeld.2.2.2.2.2))).trans (hHeld.2.2.2.2.2)
          refine ⟨_, rfl, ?_⟩
          replace HO_3 := Aside0.mk (Kd.R_below (zz12 HO_3) hb)
          replace HO_4 := Aside0.mk (Kd.R_below (zz12 HO_4) hb)
          replace HB := Aside0.mk (below_step zz5 hb)
          (try clear hb)
          (try clear hb2)
          (try clear hk)
          (try clear hi)
          refine hK.out _ _ ⟨HS0_, HS1_, HS2_, HS3_, HS4_, HS5_⟩ (fun hHeld => ?_)
          clear hK K
          refine nm 74 ?_
          refine pu 20 75 (bm 25 2097151) ?_
          refine pu 21 76 (bm 25 4194303) ?_
          refine on 22 (some 77) (bm 25 8388607) (fun K hK => ?_)
          refine gs Try.func15 #[.slice Ao36 t429.length co36, .int .i64 (wrap64 ((wrap64 (((rd_T40 t426 x8_2).f0) + t443)) - 1))] ?_
          with_reducible refine (impl_SetHas.calls k2 _ _ t429 (wrap64 ((wrap64 (((rd_T40 t426 x8_2).f0) + t443)) - 1)) false _ ?side1 ?side2 A28.out).mono ?_
          (case side1 => exact zz19 HO_4)
          (case side2 => exact zz22 HO_4)
          rintro e w39 ⟨rfl, hb⟩
          have HS0_ := (hb.cell (World.block_lt_of_cell? _ _ (hHeld.1))).trans (hHeld.1)
          have HS1_ := (hb.cell (World.block_lt_of_cell? _ _ (hHeld.2.1))).trans (hHeld.2.1)
          have HS2_ := (hb.cell (World.block_lt_of_cell? _ _ (hHeld.2.2.1))).trans (hHeld.2.2.1)
          have HS3_ := (hb.cell (World.block_lt_of_cell? _ _ (hHeld.2.2.2.1))).trans (hHeld.2.2.2.1)
          have HS4_ := (hb.cell (World.block_lt_of_cell? _ _ (hHeld.2.2.2.2.1))).trans (hHeld.2.2.2.2.1)
          have HS5_ := (hb.cell (World.block_lt_of_cell? _ _ (hHeld.2.2.2.2.2))).trans (hHeld.2.2.2.2.2)
          refine ⟨_, rfl, ?_⟩
          replace HO_3 := Aside0.mk (Kd.R_below (zz12 HO_3) hb)
          replace HO_4 := Aside0.mk (Kd.R_below (zz12 HO_4) hb)
          replace HB := Aside0.mk (below_step zz5 hb)
          (try clear hb)
          (try clear hb2)
          (try clear hk)
          (try clear hi)
          refine hK.out _ _ ⟨HS0_, HS1_, HS2_, HS3_, HS4_, HS5_⟩ (fun hHeld => ?_)
          clear hK K
          refine nm 77 ?_
          refine pu 23 78 (bm 25 16777215) ?_
          refine pu 24 79 (bm 25 33554431) ?_
          refine done_ (done_of HT_.out (by kernel_rfl)) ?_
          try go_wp2
          go_ret
          exact ⟨zz8, zz5⟩
        ·replace c26 := Bool.eq_false_iff.mpr c26
         subst c26
         have H1 : (some false) = some r := by rw [if_neg (show ¬ (false = true) by decide)] at H; exact H
         clear H
         have H := H1
         clear H1
         obtain rfl := Option.some.inj H
         try go_wp2
         replace HO_3 := Aside0.mk (Kd.R_drew HO_3.out)
         replace HO_4 := Aside0.mk (Kd.R_drew HO_4.out)
         replace HB := Aside0.mk (below_drew1 HB.out)
         obtain ⟨⟨ad439, e439, hx439_0, hx439_1⟩, p439, q439⟩ := wi (at_T40 (Kd.R_reads' HO_3.out).2.2 x8_2)
         cases e439
         obtain ⟨Ao41, co41, eo41⟩ := Kd.R_slice HO_4.out
         (first | subst eo41 | (injection eo41 with f1_ f2_ f3_; have f4_ := f1_.symm; have f5_ := f3_.symm; clear f1_ f2_ f3_; subst f4_; subst f5_))
         refine start_ (n := 25) (S := fun w' => w'.cell? (ad439.add ((x8_2).toNat * 2)) = some (.int .i64 ((rd_T40 t426 x8_2).f0)) ∧ w'.cell? ⟨(ad439.add ((x8_2).toNat * 2)).block, (ad439.add ((x8_2).toNat * 2)).off + 1, none⟩ = some (.int .i64 ((rd_T40 t426 x8_2).f1))) (ds := []) (bm 25 0) (by kernel_rfl) rfl rfl ⟨hx439_0, hx439_1⟩ (fun hHeld => ?_); refine with_tabW laws_FnSetOf.tab11 laws_FnSetOf.bits11 (fun HT_ HW_ => ?_)
         generalize wr.drew = w40 at HO_3 HO_4 HB hx439_0 hx439_1 hHeld ⊢
         refine pu 0 55 (bm 25 1) ?_
         refine pu 1 56 (bm 25 3) ?_
         refine pu 2 57 (bm 25 7) ?_
         refine pu 3 58 (bm 25 15) ?_
         refine pu 4 59 (bm 25 31) ?_
         refine tk 5 60 (bm 25 63) ?_
         refine on 6 (some 61) (bm 25 127) (fun K hK => ?_)
         refine gs Try.func15 #[.slice Ao41 t429.length co41, .int .i64 ((rd_T40 t426 x8_2).f0)] ?_
         with_reducible refine (impl_SetHas.calls k2 _ _ t429 ((rd_T40 t426 x8_2).f0) false _ ?side1 ?side2 A25.out).mono ?_
         (case side1 => exact zz19 HO_4)
         (case side2 => exact zz22 HO_4)
         rintro e w42 ⟨rfl, hb⟩
         have HS0_ := (hb.cell (World.block_lt_of_cell? _ _ (hHeld.1))).trans (hHeld.1)
         have HS1_ := (hb.cell (World.block_lt_of_cell? _ _ (hHeld.2))).trans (hHeld.2)
         refine ⟨_, rfl, ?_⟩
         replace HO_3 := Aside0.mk (Kd.R_below (zz12 HO_3) hb)
         replace HO_4 := Aside0.mk (Kd.R_below (zz12 HO_4) hb)
         replace HB := Aside0.mk (below_step zz5 hb)
         (try clear hb)
         (try clear hb2)
         (try clear hk)
         (try clear hi)
         refine hK.out _ _ ⟨HS0_, HS1_⟩ (fun hHeld => ?_)
         clear hK K
         refine nm 61 ?_
         refine pu 7 62 (bm 25 255) ?_
         refine pu 8 63 (bm 25 511) ?_
         refine po 9 64 (bm 25 1023) ?_
         refine po 10 65 (bm 25 2047) ?_
         refine po 11 66 (bm 25 4095) ?_
         refine po 12 67 (bm 25 8191) ?_
         refine po 13 68 (bm 25 16383) ?_
         refine po 14 69 (bm 25 32767) ?_
         refine po 15 70 (bm 25 65535) ?_
         refine po 16 71 (bm 25 131071) ?_
         refine po 17 72 (bm 25 262143) ?_
         refine po 18 73 (bm 25 524287) ?_
         refine po 19 74 (bm 25 1048575) ?_
         refine po 20 75 (bm 25 2097151) ?_
         refine po 21 76 (bm 25 4194303) ?_
         refine po 22 77 (bm 25 8388607) ?_
         refine po 23 78 (bm 25 16777215) ?_
         refine pu 24 79 (bm 25 33554431) ?_
         refine done_ (done_of HT_.out (by kernel_rfl)) ?_
         try go_wp2
         go_ret
         exact ⟨zz8, zz5⟩
       ·have H' := Aside0.mk H
        clear H
        go_wp2
        go_loopg [9] k2 (fun kq v9 w' => ∃ (x9_3 : Int), v9 = .int .i64 x9_3 ∧ Aside0 (laws_FnSetOf.l1 kq t429 x9_3 = some r) ∧ Aside0 (kq ≤ k2) ∧ Aside0 (Kd.R k40 40 w' w.heap.size (fun _ => True) v431 t429) ∧ Aside0 (Below w.heap.size w w'))
        case atStart => exact ⟨(1), zz1, H', ⟨Nat.le_refl _⟩, ⟨zz18 HO_4⟩, ⟨zz5⟩⟩
        case round =>
         clear H'
         try clear c1
         try clear c2
         try clear p2
         try clear p4
         try clear q4
         try clear hx4
         try clear p6
         try clear c15
         try clear c23
         try clear c23b0
         try clear c24
         try clear c26
         try clear c29
         try clear hx439_0
         try clear hx439_1
         try clear hx441_0
         try clear hx441_1
         try clear hx442_0
         try clear hx442_1
         try clear p439
         try clear p441
         try clear p442
         try clear q439
         try clear q441
         try clear q442
         obtain ⟨x9_3, rfl, HA, HK3, HO_4, HB⟩ := hrel
         cases gk with
         | zero => exact absurd HA.out (by simp [laws_FnSetOf.l1])
         | succ k3 =>
          have H := HA.out
          clear HA
          simp only [laws_FnSetOf.l1] at H
          replace H := ic H
          rcases H with ⟨c43b0, H⟩ | ⟨c43b0, H⟩
          ·obtain ⟨ji44, hji44⟩ : ∃ j_ : Int, (wrap64 (x9_3 - 1)) = j_ := ⟨_, rfl⟩
           replace H : (if 0 ≤ (ji44) then (if (ji44) < (t429.length : Int) then (if 0 ≤ x9_3 then ((impl_BlockOver.f k3 ((rd_T40 t429 (ji44)).f0) ((rd_T40 t429 (ji44)).f1) ((rd_T40 t429 x9_3).f0) ((rd_T40 t429 x9_3).f1)).bind fun bt453 => (if ((rd_T40 t429 (ji44)).f0) ≥ ((rd_T40 t429 x9_3).f0) then (some false) else ((impl_BlockMeets.f ((rd_T40 t429 (ji44)).f0) ((rd_T40 t429 (ji44)).f1) ((rd_T40 t429 x9_3).f0) ((rd_T40 t429 x9_3).f1)).bind fun t460 => (if t460 = true then (some false) else ((impl_BlockSize.f bt453.1 bt453.2).bind fun t461 => ((impl_BlockSize.f ((rd_T40 t429 (ji44)).f0) ((rd_T40 t429 (ji44)).f1)).bind fun t463 => ((impl_BlockSize.f ((rd_T40 t429 x9_3).f0) ((rd_T40 t429 x9_3).f1)).bind fun t465 => (if t461 = (wrap64 (t463 + t465)) then (if ((rd_T40 t429 (ji44)).f1) = ((rd_T40 t429 x9_3).f1) then (some false) else (laws_FnSetOf.l1 k3 t429 (wrap64 (x9_3 + 1)))) else (laws_FnSetOf.l1 k3 t429 (wrap64 (x9_3 + 1))))))))))) else (none)) else (none)) else (none)) = some r := by first | (rw [hji44] at H; exact H) | (simp only [hji44] at H ⊢; exact H)
           have hji44w : (IntKind.i64.wrap (x9_3 - 1)) = ji44 := (i64_w _).trans hji44
           replace H := gd H
           obtain ⟨c45b0, H⟩ := H
           replace H := gd H
           obtain ⟨c46b0, H⟩ := H
           replace H := gd H
           obtain ⟨c47b0, H⟩ := H
           replace H := bd H
           obtain ⟨⟨t453, t454⟩, A48, H⟩ := H
           replace H : (if ((rd_T40 t429 (ji44)).f0) ≥ ((rd_T40 t429 x9_3).f0) then (some false) else ((impl_BlockMeets.f ((rd_T40 t429 (ji44)).f0) ((rd_T40 t429 (ji44)).f1) ((rd_T40 t429 x9_3).f0) ((rd_T40 t429 x9_3).f1)).bind fun t460 => (if t460 = true then (some false) else ((impl_BlockSize.f t453 t454).bind fun t461 => ((impl_BlockSize.f ((rd_T40 t429 (ji44)).f0) ((rd_T40 t429 (ji44)).f1)).bind fun t463 => ((impl_BlockSize.f ((rd_T40 t429 x9_3).f0) ((rd_T40 t429 x9_3).f1)).bind fun t465 => (if t461 = (wrap64 (t463 + t465)) then (if ((rd_T40 t429 (ji44)).f1) = ((rd_T40 t429 x9_3).f1) then (some false) else (laws_FnSetOf.l1 k3 t429 (wrap64 (x9_3 + 1)))) else (laws_FnSetOf.l1 k3 t429 (wrap64 (x9_3 + 1)))))))))) = some r := H
           replace H := ic H
           rcases H with ⟨c49b0, H⟩ | ⟨c49b0, H⟩
           ·obtain rfl := Option.some.inj H
            obtain ⟨Ao50, co50, eo50⟩ := Kd.R_slice HO_4.out
            subst eo50
            try go_wp2
            replace HO_4 := Aside0.mk (Kd.R_drew HO_4.out)
            replace HB := Aside0.mk (below_drew1 HB.out)
            obtain ⟨⟨ad451, e451, hx451_0, hx451_1⟩, p451, q451⟩ := wi (at_T40 (Kd.R_reads' HO_4.out).2.2 (ji44))
            cases e451
            obtain ⟨⟨ad452, e452, hx452_0, hx452_1⟩, p452, q452⟩ := wi (at_T40 (Kd.R_reads' HO_4.out).2.2 x9_3)
            obtain rfl : ad451 = ad452 := (by injection e452)
            refine start_ (n := 12) (S := fun w' => w'.cell? (ad451.add (((ji44)).toNat * 2)) = some (.int .i64 ((rd_T40 t429 (ji44)).f0)) ∧ w'.cell? ⟨(ad451.add (((ji44)).toNat * 2)).block, (ad451.add (((ji44)).toNat * 2)).off + 1, none⟩ = some (.int .i64 ((rd_T40 t429 (ji44)).f1)) ∧ w'.cell? (ad451.add ((x9_3).toNat * 2)) = some (.int .i64 ((rd_T40 t429 x9_3).f0)) ∧ w'.cell? ⟨(ad451.add ((x9_3).toNat * 2)).block, (ad451.add ((x9_3).toNat * 2)).off + 1, none⟩ = some (.int .i64 ((rd_T40 t429 x9_3).f1))) (ds := []) (bm 12 0) (by kernel_rfl) rfl rfl ⟨hx451_0, hx451_1, hx452_0, hx452_1⟩ (fun hHeld => ?_); refine with_tabW laws_FnSetOf.tab16 laws_FnSetOf.bits16 (fun HT_ HW_ => ?_)
            generalize wr.drew = w51 at HO_4 HB hx451_0 hx451_1 hx452_0 hx452_1 hHeld ⊢
            refine pu 0 86 (bm 12 1) ?_
            refine pu 1 87 (bm 12 3) ?_
            refine pu 2 88 (bm 12 7) ?_
            refine pu 3 89 (bm 12 15) ?_
            refine pu 5 91 (bm 12 47) ?_
            refine pu 6 92 (bm 12 111) ?_
            refine pu 7 93 (bm 12 239) ?_
            refine tk 4 90 (bm 12 255) ?_
            refine tk 8 94 (bm 12 511) ?_
            refine join_ (σ := Nat) 1 (bm 12 2047) (fun s_ => [(95, .agg #[.int .i64 t453, .int .i64 t454]), (10, .pointer (some ⟨s_, 0, none⟩))]) (fun s_ w' => (w'.cell? (ad451.add (((ji44)).toNat * 2)) = some (.int .i64 ((rd_T40 t429 (ji44)).f0)) ∧ w'.cell? ⟨(ad451.add (((ji44)).toNat * 2)).block, (ad451.add (((ji44)).toNat * 2)).off + 1, none⟩ = some (.int .i64 ((rd_T40 t429 (ji44)).f1)) ∧ w'.cell? (ad451.add ((x9_3).toNat * 2)) = some (.int .i64 ((rd_T40 t429 x9_3).f0)) ∧ w'.cell? ⟨(ad451.add ((x9_3).toNat * 2)).block, (ad451.add ((x9_3).toNat * 2)).off + 1, none⟩ = some (.int .i64 ((rd_T40 t429 x9_3).f1))) ∧ (Kd.R k40 40 w' w.heap.size (fun k_ => k_ ≠ s_) (.slice (some ad451) t429.length co50) t429) ∧ (w'.heap[s_]? = some (.cells #[.int .i64 0, .int .i64 0] 40 (0, 0))) ∧ (w.heap.size ≤ s_) ∧ (w.heap.size ≤ s_) ∧ (Below w.heap.size w w')) ?_ ?_
            rotate_left
            ·intro hCont
             refine two_ (i := 9) (j := 10) (Ni := some 95) (Nj := some 10) (bm 12 1023) (bm 12 1535) rfl rfl rfl rfl (two_of HT_.out (by kernel_rfl)) (by decide) (by decide) (fun K hK => ?_) (fun K hK => ?_)
             ·skip
              refine goes_ Try.func24 (by kernel_rfl) rfl #[.agg #[.int .i64 ((rd_T40 t429 (ji44)).f0), .int .i64 ((rd_T40 t429 (ji44)).f1)], .agg #[.int .i64 ((rd_T40 t429 x9_3).f0), .int .i64 ((rd_T40 t429 x9_3).f1)]] (by rfl) rfl rfl (by (try simp only [List.map_toArray, List.map_cons, List.map_nil]); first | done | (simp only [hji44]; rfl) | rfl | (simp only [List.length_drop, List.length_take]; rfl)) ?_
              with_reducible refine (impl_BlockOver.calls k3 ((rd_T40 t429 (ji44)).f0) ((rd_T40 t429 (ji44)).f1) ((rd_T40 t429 x9_3).f0) ((rd_T40 t429 x9_3).f1) t453 t454 _ A48.out).mono ?_
              rintro e w52 ⟨rfl, hb⟩
              have HS0_ := (hb.cell (World.block_lt_of_cell? _ _ (hHeld.1))).trans (hHeld.1)
              have HS1_ := (hb.cell (World.block_lt_of_cell? _ _ (hHeld.2.1))).trans (hHeld.2.1)
              have HS2_ := (hb.cell (World.block_lt_of_cell? _ _ (hHeld.2.2.1))).trans (hHeld.2.2.1)
              have HS3_ := (hb.cell (World.block_lt_of_cell? _ _ (hHeld.2.2.2))).trans (hHeld.2.2.2)
              refine ⟨_, rfl, ?_⟩
              replace HO_4 := Aside0.mk (Kd.R_below (zz12 HO_4) hb)
              replace HB := Aside0.mk (below_step zz5 hb)
              (try clear hb)
              (try clear hb2)
              (try clear hk)
              (try clear hi)
              refine hK.out _ _ ⟨HS0_, HS1_, HS2_, HS3_⟩ (fun hHeld => ?_)
              clear hK K
              refine nm 95 ?_
              refine on 10 (some 10) (bm 12 2047) (fun K hK => ?_)
              refine bs 10 #[.int .i64 0, .int .i64 0] 40 ?_
              intro gb455 hg w53 hbox hb
              have HS0_ := (hb.cell (World.block_lt_of_cell? _ _ (hHeld.1))).trans (hHeld.1)
              have HS1_ := (hb.cell (World.block_lt_of_cell? _ _ (hHeld.2.1))).trans (hHeld.2.1)
              have HS2_ := (hb.cell (World.block_lt_of_cell? _ _ (hHeld.2.2.1))).trans (hHeld.2.2.1)
              have HS3_ := (hb.cell (World.block_lt_of_cell? _ _ (hHeld.2.2.2))).trans (hHeld.2.2.2)
              replace HO_4 := Aside0.mk (Kd.R_below (Kd.R_elderB (zz12 HO_4) gb455 (Nat.le_of_eq hg.symm)) hb)
              have BK455 := Aside0.mk hbox
              have GW455 := Aside0.mk (zz4 : w.heap.size ≤ gb455)
              have GE455 := Aside0.mk (zz4 : w.heap.size ≤ gb455)
              replace HB := Aside0.mk (below_step zz5 hb)
              clear hb hbox hg
              refine hK.out _ _ ⟨HS0_, HS1_, HS2_, HS3_⟩ (fun hHeld => ?_)
              clear hK K
              refine nm 10 ?_
              exact norm_ zz43 (hCont (gb455) _ ⟨hHeld, (zz20 HO_4), (zz7 BK455), GW455.out, GE455.out, (zz6 GE455)⟩)
             ·skip
              refine bs 10 #[.int .i64 0, .int .i64 0] 40 ?_
              intro gb455 hg w52 hbox hb
              have HS0_ := (hb.cell (World.block_lt_of_cell? _ _ (hHeld.1))).trans (hHeld.1)
              have HS1_ := (hb.cell (World.block_lt_of_cell? _ _ (hHeld.2.1))).trans (hHeld.2.1)
              have HS2_ := (hb.cell (World.block_lt_of_cell? _ _ (hHeld.2.2.1))).trans (hHeld.2.2.1)
              have HS3_ := (hb.cell (World.block_lt_of_cell? _ _ (hHeld.2.2.2))).trans (hHeld.2.2.2)
              replace HO_4 := Aside0.mk (Kd.R_below (Kd.R_elderB (zz12 HO_4) gb455 (Nat.le_of_eq hg.symm)) hb)
              have BK455 := Aside0.mk hbox
              have GW455 := Aside0.mk (zz4 : w.heap.size ≤ gb455)
              have GE455 := Aside0.mk (zz4 : w.heap.size ≤ gb455)
              replace HB := Aside0.mk (below_step zz5 hb)
              clear hb hbox hg
              refine hK.out _ _ ⟨HS0_, HS1_, HS2_, HS3_⟩ (fun hHeld => ?_)
              clear hK K
              refine nm 10 ?_
              refine on 9 (some 95) (bm 12 2047) (fun K hK => ?_)
              refine goes_ Try.func24 (by kernel_rfl) rfl #[.agg #[.int .i64 ((rd_T40 t429 (ji44)).f0), .int .i64 ((rd_T40 t429 (ji44)).f1)], .agg #[.int .i64 ((rd_T40 t429 x9_3).f0), .int .i64 ((rd_T40 t429 x9_3).f1)]] (by rfl) rfl rfl (by (try simp only [List.map_toArray, List.map_cons, List.map_nil]); first | done | (simp only [hji44]; rfl) | rfl | (simp only [List.length_drop, List.length_take]; rfl)) ?_
              with_reducible refine (impl_BlockOver.calls k3 ((rd_T40 t429 (ji44)).f0) ((rd_T40 t429 (ji44)).f1) ((rd_T40 t429 x9_3).f0) ((rd_T40 t429 x9_3).f1) t453 t454 _ A48.out).mono ?_
              rintro e w53 ⟨rfl, hb⟩
              have HS0_ := (hb.cell (World.block_lt_of_cell? _ _ (hHeld.1))).trans (hHeld.1)
              have HS1_ := (hb.cell (World.block_lt_of_cell? _ _ (hHeld.2.1))).trans (hHeld.2.1)
              have HS2_ := (hb.cell (World.block_lt_of_cell? _ _ (hHeld.2.2.1))).trans (hHeld.2.2.1)
              have HS3_ := (hb.cell (World.block_lt_of_cell? _ _ (hHeld.2.2.2))).trans (hHeld.2.2.2)
              refine ⟨_, rfl, ?_⟩
              replace HO_4 := Aside0.mk (Kd.R_below (zz12 HO_4) hb)
              replace BK455 := Aside0.mk (blk_below (g := gb455) (o := .cells #[.int .i64 0, .int .i64 0] 40 (0, 0)) (zz7 BK455) hb)
              replace HB := Aside0.mk (below_step (zz6 GE455) hb)
              (try clear hb)
              (try clear hb2)
              (try clear hk)
              (try clear hi)
              refine hK.out _ _ ⟨HS0_, HS1_, HS2_, HS3_⟩ (fun hHeld => ?_)
              clear hK K
              refine nm 95 ?_
              exact norm_ zz43 (hCont (gb455) _ ⟨hHeld, (zz20 HO_4), (zz7 BK455), GW455.out, GE455.out, (zz6 GE455)⟩)
            rintro gb455 w54 ⟨hS_, h0_, h1_, h2_, h3_, h4_⟩
            replace HO_4 : Aside0 (Kd.R k40 40 w54 w.heap.size (fun k_ => k_ ≠ gb455) (.slice (some ad451) t429.length co50) t429) := ⟨h0_⟩
            have BK455 : Aside0 (w54.heap[gb455]? = some (.cells #[.int .i64 0, .int .i64 0] 40 (0, 0))) := ⟨h1_⟩
            have GW455 : Aside0 (w.heap.size ≤ gb455) := ⟨h2_⟩
            have GE455 : Aside0 (w.heap.size ≤ gb455) := ⟨h3_⟩
            replace HB : Aside0 (Below w.heap.size w w54) := ⟨h4_⟩
            clear h0_ h1_ h2_ h3_ h4_
            have hHeld : w54.cell? (ad451.add (((ji44)).toNat * 2)) = some (.int .i64 ((rd_T40 t429 (ji44)).f0)) ∧ w54.cell? ⟨(ad451.add (((ji44)).toNat * 2)).block, (ad451.add (((ji44)).toNat * 2)).off + 1, none⟩ = some (.int .i64 ((rd_T40 t429 (ji44)).f1)) ∧ w54.cell? (ad451.add ((x9_3).toNat * 2)) = some (.int .i64 ((rd_T40 t429 x9_3).f0)) ∧ w54.cell? ⟨(ad451.add ((x9_3).toNat * 2)).block, (ad451.add ((x9_3).toNat * 2)).off + 1, none⟩ = some (.int .i64 ((rd_T40 t429 x9_3).f1)) := hS_
            refine norm_ (a' := ?_) ?_ ?_
            rotate_left
            ·simp only [putAll, Act.put, List.setIfInBounds_toArray, List.set_cons_zero, List.set_cons_succ]
             rfl
            refine on 11 none (bm 12 4095) (fun K hK => ?_)
            have hs55 : w54.cell? ⟨gb455, 0, none⟩ = some (.int .i64 0) := (blk_cell BK455.out 0).trans rfl
            have hfs55 := blk_frozen BK455.out 0
            have hs56 : w54.cell? ⟨gb455, 1, none⟩ = some (.int .i64 0) := (blk_cell BK455.out 1).trans rfl
            have hfs56 := blk_frozen BK455.out 1
            refine skip_ (w1 := ?_) (by rfl) rfl ?_ ?_
            rotate_left
            ·go_simp
             rfl
            refine hK.out _ _ ⟨((cell_far (p := ⟨gb455, _, none⟩) (zz61 HO_4) _).trans (((cell_far (p := ⟨gb455, _, none⟩) (zz61 HO_4) _).trans (hHeld.1)))), ((cell_far (p := ⟨gb455, _, none⟩) (zz61 HO_4) _).trans (((cell_far (p := ⟨gb455, _, none⟩) (zz61 HO_4) _).trans (hHeld.2.1)))), ((cell_far (p := ⟨gb455, _, none⟩) (zz61 HO_4) _).trans (((cell_far (p := ⟨gb455, _, none⟩) (zz61 HO_4) _).trans (hHeld.2.2.1)))), ((cell_far (p := ⟨gb455, _, none⟩) (zz61 HO_4) _).trans (((cell_far (p := ⟨gb455, _, none⟩) (zz61 HO_4) _).trans (hHeld.2.2.2))))⟩ (fun hHeld => ?_)
            clear hK K
            refine done_ (done_of HT_.out (by kernel_rfl)) ?_
            try go_wp2
            have n0_ : Aside0 (Kd.R k40 40 ((w54.setCell ⟨gb455, 0, none⟩ (.int .i64 t453)).setCell ⟨gb455, 1, none⟩ (.int .i64 t454)) w.heap.size (fun k_ => k_ ≠ gb455) (.slice (some ad451) t429.length co50) t429) := ⟨by (with_reducible repeat (first | apply Kd.R_alloc | apply Kd.R_drewN | apply Kd.R_drew)); exact Kd.R_mono (Kd.R_far (p := ⟨gb455, 1, none⟩) (Kd.R_far (p := ⟨gb455, 0, none⟩) (Kd.R_mono HO_4.out (fun k_ hk => (⟨hk, hk⟩ : _ ∧ k_ ≠ gb455))) (fun _ hk => hk.2) (.int .i64 t453)) (fun _ hk => hk.2) (.int .i64 t454)) (fun _ hk => hk.1)⟩
            have n1_ : Aside0 (((w54.setCell ⟨gb455, 0, none⟩ (.int .i64 t453)).setCell ⟨gb455, 1, none⟩ (.int .i64 t454)).heap[gb455]? = some (.cells #[.int .i64 t453, .int .i64 t454] 40 (0, 0))) := ⟨by (with_reducible repeat (first | refine blk_drewN ?_ _ | refine blk_drew ?_ | refine blk_alloc ?_ _)); refine blk_put (cs := #[.int .i64 t453, .int .i64 0]) ?_ 1 _ rfl; (with_reducible repeat (first | refine blk_drewN ?_ _ | refine blk_drew ?_ | refine blk_alloc ?_ _)); refine blk_put (cs := #[.int .i64 0, .int .i64 0]) ?_ 0 _ rfl; (with_reducible repeat (first | refine blk_drewN ?_ _ | refine blk_drew ?_ | refine blk_alloc ?_ _)); exact BK455.out⟩
            have n2_ : Aside0 (Below w.heap.size w ((w54.setCell ⟨gb455, 0, none⟩ (.int .i64 t453)).setCell ⟨gb455, 1, none⟩ (.int .i64 t454))) := ⟨zz6 GE455⟩
            (try clear HO_4)
            (try clear BK455)
            (try clear HB)
            generalize ((w54.setCell ⟨gb455, 0, none⟩ (.int .i64 t453)).setCell ⟨gb455, 1, none⟩ (.int .i64 t454)) = w57 at n0_ n1_ n2_ ⊢
            have HO_4 := n0_
            have BK455 := n1_
            have HB := n2_
            clear n0_ n1_ n2_
            replace HO_4 := Aside0.mk (Kd.R_drew HO_4.out)
            replace BK455 := Aside0.mk (blk_drew BK455.out)
            replace HB := Aside0.mk (below_drew1 HB.out)
            obtain ⟨⟨ad456, e456, hx456_0, hx456_1⟩, p456, q456⟩ := wi (at_T40 (Kd.R_reads' HO_4.out).2.2 (ji44))
            obtain rfl : ad451 = ad456 := (by injection e456)
            obtain ⟨⟨ad457, e457, hx457_0, hx457_1⟩, p457, q457⟩ := wi (at_T40 (Kd.R_reads' HO_4.out).2.2 x9_3)
            obtain rfl : ad451 = ad457 := (by injection e457)
            refine start_ (n := 55) (S := fun w' => w'.cell? (ad451.add (((ji44)).toNat * 2)) = some (.int .i64 ((rd_T40 t429 (ji44)).f0)) ∧ w'.cell? ⟨(ad451.add (((ji44)).toNat * 2)).block, (ad451.add (((ji44)).toNat * 2)).off + 1, none⟩ = some (.int .i64 ((rd_T40 t429 (ji44)).f1)) ∧ w'.cell? (ad451.add ((x9_3).toNat * 2)) = some (.int .i64 ((rd_T40 t429 x9_3).f0)) ∧ w'.cell? ⟨(ad451.add ((x9_3).toNat * 2)).block, (ad451.add ((x9_3).toNat * 2)).off + 1, none⟩ = some (.int .i64 ((rd_T40 t429 x9_3).f1))) (ds := []) (bm 55 0) (by kernel_rfl) rfl rfl ⟨hx456_0, hx456_1, hx457_0, hx457_1⟩ (fun hHeld => ?_); refine with_tabW laws_FnSetOf.tab17 laws_FnSetOf.bits17 (fun HT_ HW_ => ?_)
            generalize w57.drew = w58 at HO_4 BK455 HB hx456_0 hx456_1 hx457_0 hx457_1 hHeld ⊢
            refine pu 0 96 (bm 55 1) ?_
            refine pu 1 97 (bm 55 3) ?_
            refine pu 2 98 (bm 55 7) ?_
            refine pu 3 99 (bm 55 15) ?_
            refine pu 4 100 (bm 55 31) ?_
            refine pu 6 102 (bm 55 95) ?_
            refine pu 7 103 (bm 55 223) ?_
            refine pu 8 104 (bm 55 479) ?_
            refine pu 9 105 (bm 55 991) ?_
            refine tk 5 101 (bm 55 1023) ?_
            refine tk 10 106 (bm 55 2047) ?_
            refine pu 11 107 (bm 55 4095) ?_
            refine pu 12 108 (bm 55 8191) ?_
            refine po 13 109 (bm 55 16383) ?_
            refine po 14 110 (bm 55 32767) ?_
            refine po 15 111 (bm 55 65535) ?_
            refine po 16 112 (bm 55 131071) ?_
            refine po 17 113 (bm 55 262143) ?_
            refine po 18 114 (bm 55 524287) ?_
            refine po 19 115 (bm 55 1048575) ?_
            refine po 20 116 (bm 55 2097151) ?_
            refine po 21 117 (bm 55 4194303) ?_
            refine po 22 118 (bm 55 8388607) ?_
            refine pu 23 119 (bm 55 16777215) ?_
            refine pu 24 120 (bm 55 33554431) ?_
            refine po 25 121 (bm 55 67108863) ?_
            refine po 26 122 (bm 55 134217727) ?_
            refine po 27 123 (bm 55 268435455) ?_
            refine po 28 124 (bm 55 536870911) ?_
            refine po 29 125 (bm 55 1073741823) ?_
            refine po 30 126 (bm 55 2147483647) ?_
            refine po 31 127 (bm 55 4294967295) ?_
            refine po 32 128 (bm 55 8589934591) ?_
            refine po 33 129 (bm 55 17179869183) ?_
            refine po 34 130 (bm 55 34359738367) ?_
            refine po 35 131 (bm 55 68719476735) ?_
            refine po 36 132 (bm 55 137438953471) ?_
            refine po 37 133 (bm 55 274877906943) ?_
            refine po 38 134 (bm 55 549755813887) ?_
            refine po 39 135 (bm 55 1099511627775) ?_
            refine po 40 136 (bm 55 2199023255551) ?_
            refine po 41 137 (bm 55 4398046511103) ?_
            refine po 42 138 (bm 55 8796093022207) ?_
            refine po 43 139 (bm 55 17592186044415) ?_
            refine po 44 140 (bm 55 35184372088831) ?_
            refine po 45 141 (bm 55 70368744177663) ?_
            refine po 46 142 (bm 55 140737488355327) ?_
            refine po 47 143 (bm 55 281474976710655) ?_
            refine po 48 144 (bm 55 562949953421311) ?_
            refine po 49 145 (bm 55 1125899906842623) ?_
            refine po 50 146 (bm 55 2251799813685247) ?_
            refine po 51 147 (bm 55 4503599627370495) ?_
            refine po 52 148 (bm 55 9007199254740991) ?_
            refine po 53 149 (bm 55 18014398509481983) ?_
            refine pu 54 150 (bm 55 36028797018963967) ?_
            refine done_ (done_of HT_.out (by kernel_rfl)) ?_
            try go_wp2
            go_ret
            exact ⟨by first | rfl | (simp [errW_none, errW_some] <;> rfl) | (simp only [← hji44]; first | rfl | (simp [errW_none, errW_some] <;> rfl)) | (simp [*, errW_none, errW_some] <;> rfl), zz6 GE455⟩
           ·replace H := Option.bind_eq_some_iff.mp H
            obtain ⟨t460, A590, H⟩ := H
            replace H : (if t460 = true then (some false) else ((impl_BlockSize.f t453 t454).bind fun t461 => ((impl_BlockSize.f ((rd_T40 t429 (ji44)).f0) ((rd_T40 t429 (ji44)).f1)).bind fun t463 => ((impl_BlockSize.f ((rd_T40 t429 x9_3).f0) ((rd_T40 t429 x9_3).f1)).bind fun t465 => (if t461 = (wrap64 (t463 + t465)) then (if ((rd_T40 t429 (ji44)).f1) = ((rd_T40 t429 x9_3).f1) then (some false) else (laws_FnSetOf.l1 k3 t429 (wrap64 (x9_3 + 1)))) else (laws_FnSetOf.l1 k3 t429 (wrap64 (x9_3 + 1)))))))) = some r := H
            have A59 := Aside0.mk A590
            clear A590
            by_cases c60 : t460 = true
            ·subst c60
             have H1 : (some false) = some r := by rw [if_pos rfl] at H; exact H
             clear H
             have H := H1
             clear H1
             obtain rfl := Option.some.inj H
             obtain ⟨Ao61, co61, eo61⟩ := Kd.R_slice HO_4.out
             subst eo61
             try go_wp2
             replace HO_4 := Aside0.mk (Kd.R_drew HO_4.out)
             replace HB := Aside0.mk (below_drew1 HB.out)
             obtain ⟨⟨ad451, e451, hx451_0, hx451_1⟩, p451, q451⟩ := wi (at_T40 (Kd.R_reads' HO_4.out).2.2 (ji44))
             cases e451
             obtain ⟨⟨ad452, e452, hx452_0, hx452_1⟩, p452, q452⟩ := wi (at_T40 (Kd.R_reads' HO_4.out).2.2 x9_3)
             obtain rfl : ad451 = ad452 := (by injection e452)
             refine start_ (n := 12) (S := fun w' => w'.cell? (ad451.add (((ji44)).toNat * 2)) = some (.int .i64 ((rd_T40 t429 (ji44)).f0)) ∧ w'.cell? ⟨(ad451.add (((ji44)).toNat * 2)).block, (ad451.add (((ji44)).toNat * 2)).off + 1, none⟩ = some (.int .i64 ((rd_T40 t429 (ji44)).f1)) ∧ w'.cell? (ad451.add ((x9_3).toNat * 2)) = some (.int .i64 ((rd_T40 t429 x9_3).f0)) ∧ w'.cell? ⟨(ad451.add ((x9_3).toNat * 2)).block, (ad451.add ((x9_3).toNat * 2)).off + 1, none⟩ = some (.int .i64 ((rd_T40 t429 x9_3).f1))) (ds := []) (bm 12 0) (by kernel_rfl) rfl rfl ⟨hx451_0, hx451_1, hx452_0, hx452_1⟩ (fun hHeld => ?_); refine with_tabW laws_FnSetOf.tab16 laws_FnSetOf.bits16 (fun HT_ HW_ => ?_)
             generalize wr.drew = w62 at HO_4 HB hx451_0 hx451_1 hx452_0 hx452_1 hHeld ⊢
             refine pu 0 86 (bm 12 1) ?_
             refine pu 1 87 (bm 12 3) ?_
             refine pu 2 88 (bm 12 7) ?_
             refine pu 3 89 (bm 12 15) ?_
             refine pu 5 91 (bm 12 47) ?_
             refine pu 6 92 (bm 12 111) ?_
             refine pu 7 93 (bm 12 239) ?_
             refine tk 4 90 (bm 12 255) ?_
             refine tk 8 94 (bm 12 511) ?_
             refine join_ (σ := Nat) 1 (bm 12 2047) (fun s_ => [(95, .agg #[.int .i64 t453, .int .i64 t454]), (10, .pointer (some ⟨s_, 0, none⟩))]) (fun s_ w' => (w'.cell? (ad451.add (((ji44)).toNat * 2)) = some (.int .i64 ((rd_T40 t429 (ji44)).f0)) ∧ w'.cell? ⟨(ad451.add (((ji44)).toNat * 2)).block, (ad451.add (((ji44)).toNat * 2)).off + 1, none⟩ = some (.int .i64 ((rd_T40 t429 (ji44)).f1)) ∧ w'.cell? (ad451.add ((x9_3).toNat * 2)) = some (.int .i64 ((rd_T40 t429 x9_3).f0)) ∧ w'.cell? ⟨(ad451.add ((x9_3).toNat * 2)).block, (ad451.add ((x9_3).toNat * 2)).off + 1, none⟩ = some (.int .i64 ((rd_T40 t429 x9_3).f1))) ∧ (Kd.R k40 40 w' w.heap.size (fun k_ => k_ ≠ s_) (.slice (some ad451) t429.length co61) t429) ∧ (w'.heap[s_]? = some (.cells #[.int .i64 0, .int .i64 0] 40 (0, 0))) ∧ (w.heap.size ≤ s_) ∧ (w.heap.size ≤ s_) ∧ (Below w.heap.size w w')) ?_ ?_
             rotate_left
             ·intro hCont
              refine two_ (i := 9) (j := 10) (Ni := some 95) (Nj := some 10) (bm 12 1023) (bm 12 1535) rfl rfl rfl rfl (two_of HT_.out (by kernel_rfl)) (by decide) (by decide) (fun K hK => ?_) (fun K hK => ?_)
              ·skip
               refine goes_ Try.func24 (by kernel_rfl) rfl #[.agg #[.int .i64 ((rd_T40 t429 (ji44)).f0), .int .i64 ((rd_T40 t429 (ji44)).f1)], .agg #[.int .i64 ((rd_T40 t429 x9_3).f0), .int .i64 ((rd_T40 t429 x9_3).f1)]] (by rfl) rfl rfl (by (try simp only [List.map_toArray, List.map_cons, List.map_nil]); first | done | (simp only [hji44]; rfl) | rfl | (simp only [List.length_drop, List.length_take]; rfl)) ?_
               with_reducible refine (impl_BlockOver.calls k3 ((rd_T40 t429 (ji44)).f0) ((rd_T40 t429 (ji44)).f1) ((rd_T40 t429 x9_3).f0) ((rd_T40 t429 x9_3).f1) t453 t454 _ A48.out).mono ?_
               rintro e w63 ⟨rfl, hb⟩
               have HS0_ := (hb.cell (World.block_lt_of_cell? _ _ (hHeld.1))).trans (hHeld.1)
               have HS1_ := (hb.cell (World.block_lt_of_cell? _ _ (hHeld.2.1))).trans (hHeld.2.1)
               have HS2_ := (hb.cell (World.block_lt_of_cell? _ _ (hHeld.2.2.1))).trans (hHeld.2.2.1)
               have HS3_ := (hb.cell (World.block_lt_of_cell? _ _ (hHeld.2.2.2))).trans (hHeld.2.2.2)
               refine ⟨_, rfl, ?_⟩
               replace HO_4 := Aside0.mk (Kd.R_below (zz12 HO_4) hb)
               replace HB := Aside0.mk (below_step zz5 hb)
               (try clear hb)
               (try clear hb2)
               (try clear hk)
               (try clear hi)
               refine hK.out _ _ ⟨HS0_, HS1_, HS2_, HS3_⟩ (fun hHeld => ?_)
               clear hK K
               refine nm 95 ?_
               refine on 10 (some 10) (bm 12 2047) (fun K hK => ?_)
               refine bs 10 #[.int .i64 0, .int .i64 0] 40 ?_
               intro gb455 hg w64 hbox hb
               have HS0_ := (hb.cell (World.block_lt_of_cell? _ _ (hHeld.1))).trans (hHeld.1)
               have HS1_ := (hb.cell (World.block_lt_of_cell? _ _ (hHeld.2.1))).trans (hHeld.2.1)
               have HS2_ := (hb.cell (World.block_lt_of_cell? _ _ (hHeld.2.2.1))).trans (hHeld.2.2.1)
               have HS3_ := (hb.cell (World.block_lt_of_cell? _ _ (hHeld.2.2.2))).trans (hHeld.2.2.2)
               replace HO_4 := Aside0.mk (Kd.R_below (Kd.R_elderB (zz12 HO_4) gb455 (Nat.le_of_eq hg.symm)) hb)
               have BK455 := Aside0.mk hbox
               have GW455 := Aside0.mk (zz4 : w.heap.size ≤ gb455)
               have GE455 := Aside0.mk (zz4 : w.heap.size ≤ gb455)
               replace HB := Aside0.mk (below_step zz5 hb)
               clear hb hbox hg
               refine hK.out _ _ ⟨HS0_, HS1_, HS2_, HS3_⟩ (fun hHeld => ?_)
               clear hK K
               refine nm 10 ?_
               exact norm_ zz43 (hCont (gb455) _ ⟨hHeld, (zz20 HO_4), (zz7 BK455), GW455.out, GE455.out, (zz6 GE455)⟩)
              ·skip
               refine bs 10 #[.int .i64 0, .int .i64 0] 40 ?_
               intro gb455 hg w63 hbox hb
               have HS0_ := (hb.cell (World.block_lt_of_cell? _ _ (hHeld.1))).trans (hHeld.1)
               have HS1_ := (hb.cell (World.block_lt_of_cell? _ _ (hHeld.2.1))).trans (hHeld.2.1)
               have HS2_ := (hb.cell (World.block_lt_of_cell? _ _ (hHeld.2.2.1))).trans (hHeld.2.2.1)
               have HS3_ := (hb.cell (World.block_lt_of_cell? _ _ (hHeld.2.2.2))).trans (hHeld.2.2.2)
               replace HO_4 := Aside0.mk (Kd.R_below (Kd.R_elderB (zz12 HO_4) gb455 (Nat.le_of_eq hg.symm)) hb)
               have BK455 := Aside0.mk hbox
               have GW455 := Aside0.mk (zz4 : w.heap.size ≤ gb455)
               have GE455 := Aside0.mk (zz4 : w.heap.size ≤ gb455)
               replace HB := Aside0.mk (below_step zz5 hb)
               clear hb hbox hg
               refine hK.out _ _ ⟨HS0_, HS1_, HS2_, HS3_⟩ (fun hHeld => ?_)
               clear hK K
               refine nm 10 ?_
               refine on 9 (some 95) (bm 12 2047) (fun K hK => ?_)
               refine goes_ Try.func24 (by kernel_rfl) rfl #[.agg #[.int .i64 ((rd_T40 t429 (ji44)).f0), .int .i64 ((rd_T40 t429 (ji44)).f1)], .agg #[.int .i64 ((rd_T40 t429 x9_3).f0), .int .i64 ((rd_T40 t429 x9_3).f1)]] (by rfl) rfl rfl (by (try simp only [List.map_toArray, List.map_cons, List.map_nil]); first | done | (simp only [hji44]; rfl) | rfl | (simp only [List.length_drop, List.length_take]; rfl)) ?_
               with_reducible refine (impl_BlockOver.calls k3 ((rd_T40 t429 (ji44)).f0) ((rd_T40 t429 (ji44)).f1) ((rd_T40 t429 x9_3).f0) ((rd_T40 t429 x9_3).f1) t453 t454 _ A48.out).mono ?_
               rintro e w64 ⟨rfl, hb⟩
               have HS0_ := (hb.cell (World.block_lt_of_cell? _ _ (hHeld.1))).trans (hHeld.1)
               have HS1_ := (hb.cell (World.block_lt_of_cell? _ _ (hHeld.2.1))).trans (hHeld.2.1)
               have HS2_ := (hb.cell (World.block_lt_of_cell? _ _ (hHeld.2.2.1))).trans (hHeld.2.2.1)
               have HS3_ := (hb.cell (World.block_lt_of_cell? _ _ (hHeld.2.2.2))).trans (hHeld.2.2.2)
               refine ⟨_, rfl, ?_⟩
               replace HO_4 := Aside0.mk (Kd.R_below (zz12 HO_4) hb)
               replace BK455 := Aside0.mk (blk_below (g := gb455) (o := .cells #[.int .i64 0, .int .i64 0] 40 (0, 0)) (zz7 BK455) hb)
               replace HB := Aside0.mk (below_step (zz6 GE455) hb)
               (try clear hb)
               (try clear hb2)
               (try clear hk)
               (try clear hi)
               refine hK.out _ _ ⟨HS0_, HS1_, HS2_, HS3_⟩ (fun hHeld => ?_)
               clear hK K
               refine nm 95 ?_
               exact norm_ zz43 (hCont (gb455) _ ⟨hHeld, (zz20 HO_4), (zz7 BK455), GW455.out, GE455.out, (zz6 GE455)⟩)
             rintro gb455 w65 ⟨hS_, h0_, h1_, h2_, h3_, h4_⟩
             replace HO_4 : Aside0 (Kd.R k40 40 w65 w.heap.size (fun k_ => k_ ≠ gb455) (.slice (some ad451) t429.length co61) t429) := ⟨h0_⟩
             have BK455 : Aside0 (w65.heap[gb455]? = some (.cells #[.int .i64 0, .int .i64 0] 40 (0, 0))) := ⟨h1_⟩
             have GW455 : Aside0 (w.heap.size ≤ gb455) := ⟨h2_⟩
             have GE455 : Aside0 (w.heap.size ≤ gb455) := ⟨h3_⟩
             replace HB : Aside0 (Below w.heap.size w w65) := ⟨h4_⟩
             clear h0_ h1_ h2_ h3_ h4_
             have hHeld : w65.cell? (ad451.add (((ji44)).toNat * 2)) = some (.int .i64 ((rd_T40 t429 (ji44)).f0)) ∧ w65.cell? ⟨(ad451.add (((ji44)).toNat * 2)).block, (ad451.add (((ji44)).toNat * 2)).off + 1, none⟩ = some (.int .i64 ((rd_T40 t429 (ji44)).f1)) ∧ w65.cell? (ad451.add ((x9_3).toNat * 2)) = some (.int .i64 ((rd_T40 t429 x9_3).f0)) ∧ w65.cell? ⟨(ad451.add ((x9_3).toNat * 2)).block, (ad451.add ((x9_3).toNat * 2)).off + 1, none⟩ = some (.int .i64 ((rd_T40 t429 x9_3).f1)) := hS_
             refine norm_ (a' := ?_) ?_ ?_
             rotate_left
             ·simp only [putAll, Act.put, List.setIfInBounds_toArray, List.set_cons_zero, List.set_cons_succ]
              rfl
             refine on 11 none (bm 12 4095) (fun K hK => ?_)
             have hs66 : w65.cell? ⟨gb455, 0, none⟩ = some (.int .i64 0) := (blk_cell BK455.out 0).trans rfl
             have hfs66 := blk_frozen BK455.out 0
             have hs67 : w65.cell? ⟨gb455, 1, none⟩ = some (.int .i64 0) := (blk_cell BK455.out 1).trans rfl
             have hfs67 := blk_frozen BK455.out 1
             refine skip_ (w1 := ?_) (by rfl) rfl ?_ ?_
             rotate_left
             ·go_simp
              rfl
             refine hK.out _ _ ⟨((cell_far (p := ⟨gb455, _, none⟩) (zz61 HO_4) _).trans (((cell_far (p := ⟨gb455, _, none⟩) (zz61 HO_4) _).trans (hHeld.1)))), ((cell_far (p := ⟨gb455, _, none⟩) (zz61 HO_4) _).trans (((cell_far (p := ⟨gb455, _, none⟩) (zz61 HO_4) _).trans (hHeld.2.1)))), ((cell_far (p := ⟨gb455, _, none⟩) (zz61 HO_4) _).trans (((cell_far (p := ⟨gb455, _, none⟩) (zz61 HO_4) _).trans (hHeld.2.2.1)))), ((cell_far (p := ⟨gb455, _, none⟩) (zz61 HO_4) _).trans (((cell_far (p := ⟨gb455, _, none⟩) (zz61 HO_4) _).trans (hHeld.2.2.2))))⟩ (fun hHeld => ?_)
             clear hK K
             refine done_ (done_of HT_.out (by kernel_rfl)) ?_
             try go_wp2
             have n0_ : Aside0 (Kd.R k40 40 ((w65.setCell ⟨gb455, 0, none⟩ (.int .i64 t453)).setCell ⟨gb455, 1, none⟩ (.int .i64 t454)) w.heap.size (fun k_ => k_ ≠ gb455) (.slice (some ad451) t429.length co61) t429) := ⟨by (with_reducible repeat (first | apply Kd.R_alloc | apply Kd.R_drewN | apply Kd.R_drew)); exact Kd.R_mono (Kd.R_far (p := ⟨gb455, 1, none⟩) (Kd.R_far (p := ⟨gb455, 0, none⟩) (Kd.R_mono HO_4.out (fun k_ hk => (⟨hk, hk⟩ : _ ∧ k_ ≠ gb455))) (fun _ hk => hk.2) (.int .i64 t453)) (fun _ hk => hk.2) (.int .i64 t454)) (fun _ hk => hk.1)⟩
             have n1_ : Aside0 (((w65.setCell ⟨gb455, 0, none⟩ (.int .i64 t453)).setCell ⟨gb455, 1, none⟩ (.int .i64 t454)).heap[gb455]? = some (.cells #[.int .i64 t453, .int .i64 t454] 40 (0, 0))) := ⟨by (with_reducible repeat (first | refine blk_drewN ?_ _ | refine blk_drew ?_ | refine blk_alloc ?_ _)); refine blk_put (cs := #[.int .i64 t453, .int .i64 0]) ?_ 1 _ rfl; (with_reducible repeat (first | refine blk_drewN ?_ _ | refine blk_drew ?_ | refine blk_alloc ?_ _)); refine blk_put (cs := #[.int .i64 0, .int .i64 0]) ?_ 0 _ rfl; (with_reducible repeat (first | refine blk_drewN ?_ _ | refine blk_drew ?_ | refine blk_alloc ?_ _)); exact BK455.out⟩
             have n2_ : Aside0 (Below w.heap.size w ((w65.setCell ⟨gb455, 0, none⟩ (.int .i64 t453)).setCell ⟨gb455, 1, none⟩ (.int .i64 t454))) := ⟨zz6 GE455⟩
             (try clear HO_4)
             (try clear BK455)
             (try clear HB)
             generalize ((w65.setCell ⟨gb455, 0, none⟩ (.int .i64 t453)).setCell ⟨gb455, 1, none⟩ (.int .i64 t454)) = w68 at n0_ n1_ n2_ ⊢
             have HO_4 := n0_
             have BK455 := n1_
             have HB := n2_
             clear n0_ n1_ n2_
             replace HO_4 := Aside0.mk (Kd.R_drew HO_4.out)
             replace BK455 := Aside0.mk (blk_drew BK455.out)
             replace HB := Aside0.mk (below_drew1 HB.out)
             obtain ⟨⟨ad456, e456, hx456_0, hx456_1⟩, p456, q456⟩ := wi (at_T40 (Kd.R_reads' HO_4.out).2.2 (ji44))
             obtain rfl : ad451 = ad456 := (by injection e456)
             obtain ⟨⟨ad457, e457, hx457_0, hx457_1⟩, p457, q457⟩ := wi (at_T40 (Kd.R_reads' HO_4.out).2.2 x9_3)
             obtain rfl : ad451 = ad457 := (by injection e457)
             obtain ⟨⟨ad458, e458, hx458_0, hx458_1⟩, p458, q458⟩ := wi (at_T40 (Kd.R_reads' HO_4.out).2.2 (ji44))
             obtain rfl : ad451 = ad458 := (by injection e458)
             obtain ⟨⟨ad459, e459, hx459_0, hx459_1⟩, p459, q459⟩ := wi (at_T40 (Kd.R_reads' HO_4.out).2.2 x9_3)
             obtain rfl : ad451 = ad459 := (by injection e459)
             refine start_ (n := 55) (S := fun w' => w'.cell? (ad451.add (((ji44)).toNat * 2)) = some (.int .i64 ((rd_T40 t429 (ji44)).f0)) ∧ w'.cell? ⟨(ad451.add (((ji44)).toNat * 2)).block, (ad451.add (((ji44)).toNat * 2)).off + 1, none⟩ = some (.int .i64 ((rd_T40 t429 (ji44)).f1)) ∧ w'.cell? (ad451.add ((x9_3).toNat * 2)) = some (.int .i64 ((rd_T40 t429 x9_3).f0)) ∧ w'.cell? ⟨(ad451.add ((x9_3).toNat * 2)).block, (ad451.add ((x9_3).toNat * 2)).off + 1, none⟩ = some (.int .i64 ((rd_T40 t429 x9_3).f1)) ∧ w'.cell? (ad451.add (((ji44)).toNat * 2)) = some (.int .i64 ((rd_T40 t429 (ji44)).f0)) ∧ w'.cell? ⟨(ad451.add (((ji44)).toNat * 2)).block, (ad451.add (((ji44)).toNat * 2)).off + 1, none⟩ = some (.int .i64 ((rd_T40 t429 (ji44)).f1)) ∧ w'.cell? (ad451.add ((x9_3).toNat * 2)) = some (.int .i64 ((rd_T40 t429 x9_3).f0)) ∧ w'.cell? ⟨(ad451.add ((x9_3).toNat * 2)).block, (ad451.add ((x9_3).toNat * 2)).off + 1, none⟩ = some (.int .i64 ((rd_T40 t429 x9_3).f1))) (ds := []) (bm 55 0) (by kernel_rfl) rfl rfl ⟨hx456_0, hx456_1, hx457_0, hx457_1, hx458_0, hx458_1, hx459_0, hx459_1⟩ (fun hHeld => ?_); refine with_tabW laws_FnSetOf.tab17 laws_FnSetOf.bits17 (fun HT_ HW_ => ?_)
             generalize w68.drew = w69 at HO_4 BK455 HB hx456_0 hx456_1 hx457_0 hx457_1 hx458_0 hx458_1 hx459_0 hx459_1 hHeld ⊢
             refine pu 0 96 (bm 55 1) ?_
             refine pu 1 97 (bm 55 3) ?_
             refine pu 2 98 (bm 55 7) ?_
             refine pu 3 99 (bm 55 15) ?_
             refine pu 4 100 (bm 55 31) ?_
             refine pu 6 102 (bm 55 95) ?_
             refine pu 7 103 (bm 55 223) ?_
             refine pu 8 104 (bm 55 479) ?_
             refine pu 9 105 (bm 55 991) ?_
             refine tk 5 101 (bm 55 1023) ?_
             refine tk 10 106 (bm 55 2047) ?_
             refine pu 11 107 (bm 55 4095) ?_
             refine pu 12 108 (bm 55 8191) ?_
             refine pu 13 109 (bm 55 16383) ?_
             refine pu 14 110 (bm 55 32767) ?_
             refine pu 15 111 (bm 55 65535) ?_
             refine pu 16 112 (bm 55 131071) ?_
             refine pu 18 114 (bm 55 393215) ?_
             refine pu 19 115 (bm 55 917503) ?_
             refine pu 20 116 (bm 55 1966079) ?_
             refine tk 17 113 (bm 55 2097151) ?_
             refine tk 21 117 (bm 55 4194303) ?_
             refine on 22 (some 118) (bm 55 8388607) (fun K hK => ?_)
             refine goes_ Try.func25 (by kernel_rfl) rfl #[.agg #[.int .i64 ((rd_T40 t429 (ji44)).f0), .int .i64 ((rd_T40 t429 (ji44)).f1)], .agg #[.int .i64 ((rd_T40 t429 x9_3).f0), .int .i64 ((rd_T40 t429 x9_3).f1)]] (by rfl) rfl rfl (by (try simp only [List.map_toArray, List.map_cons, List.map_nil]); first | done | (simp only [hji44]; rfl) | rfl | (simp only [List.length_drop, List.length_take]; rfl)) ?_
             with_reducible refine (impl_BlockMeets.calls ((rd_T40 t429 (ji44)).f0) ((rd_T40 t429 (ji44)).f1) ((rd_T40 t429 x9_3).f0) ((rd_T40 t429 x9_3).f1) true _ A59.out).mono ?_
             rintro e w70 ⟨rfl, hb⟩
             have HS0_ := (hb.cell (World.block_lt_of_cell? _ _ (hHeld.1))).trans (hHeld.1)
             have HS1_ := (hb.cell (World.block_lt_of_cell? _ _ (hHeld.2.1))).trans (hHeld.2.1)
             have HS2_ := (hb.cell (World.block_lt_of_cell? _ _ (hHeld.2.2.1))).trans (hHeld.2.2.1)
             have HS3_ := (hb.cell (World.block_lt_of_cell? _ _ (hHeld.2.2.2.1))).trans (hHeld.2.2.2.1)
             have HS4_ := (hb.cell (World.block_lt_of_cell? _ _ (hHeld.2.2.2.2.1))).trans (hHeld.2.2.2.2.1)
             have HS5_ := (hb.cell (World.block_lt_of_cell? _ _ (hHeld.2.2.2.2.2.1))).trans (hHeld.2.2.2.2.2.1)
             have HS6_ := (hb.cell (World.block_lt_of_cell? _ _ (hHeld.2.2.2.2.2.2.1))).trans (hHeld.2.2.2.2.2.2.1)
             have HS7_ := (hb.cell (World.block_lt_of_cell? _ _ (hHeld.2.2.2.2.2.2.2))).trans (hHeld.2.2.2.2.2.2.2)
             refine ⟨_, rfl, ?_⟩
             replace HO_4 := Aside0.mk (Kd.R_below (zz12 HO_4) hb)
             replace BK455 := Aside0.mk (blk_below (g := gb455) (o := .cells #[.int .i64 t453, .int .i64 t454] 40 (0, 0)) (zz7 BK455) hb)
             replace HB := Aside0.mk (below_step (zz6 GE455) hb)
             (try clear hb)
             (try clear hb2)
             (try clear hk)
             (try clear hi)
             refine hK.out _ _ ⟨HS0_, HS1_, HS2_, HS3_, HS4_, HS5_, HS6_, HS7_⟩ (fun hHeld => ?_)
             clear hK K
             refine nm 118 ?_
             refine pu 23 119 (bm 55 16777215) ?_
             refine pu 24 120 (bm 55 33554431) ?_
             refine po 25 121 (bm 55 67108863) ?_
             refine po 26 122 (bm 55 134217727) ?_
             refine po 27 123 (bm 55 268435455) ?_
             refine po 28 124 (bm 55 536870911) ?_
             refine po 29 125 (bm 55 1073741823) ?_
             refine po 30 126 (bm 55 2147483647) ?_
             refine po 31 127 (bm 55 4294967295) ?_
             refine po 32 128 (bm 55 8589934591) ?_
             refine po 33 129 (bm 55 17179869183) ?_
             refine po 34 130 (bm 55 34359738367) ?_
             refine po 35 131 (bm 55 68719476735) ?_
             refine po 36 132 (bm 55 137438953471) ?_
             refine po 37 133 (bm 55 274877906943) ?_
             refine po 38 134 (bm 55 549755813887) ?_
             refine po 39 135 (bm 55 1099511627775) ?_
             refine po 40 136 (bm 55 2199023255551) ?_
             refine po 41 137 (bm 55 4398046511103) ?_
             refine po 42 138 (bm 55 8796093022207) ?_
             refine po 43 139 (bm 55 17592186044415) ?_
             refine po 44 140 (bm 55 35184372088831) ?_
             refine po 45 141 (bm 55 70368744177663) ?_
             refine po 46 142 (bm 55 140737488355327) ?_
             refine po 47 143 (bm 55 281474976710655) ?_
             refine po 48 144 (bm 55 562949953421311) ?_
             refine po 49 145 (bm 55 1125899906842623) ?_
             refine po 50 146 (bm 55 2251799813685247) ?_
             refine po 51 147 (bm 55 4503599627370495) ?_
             refine po 52 148 (bm 55 9007199254740991) ?_
             refine po 53 149 (bm 55 18014398509481983) ?_
             refine pu 54 150 (bm 55 36028797018963967) ?_
             refine done_ (done_of HT_.out (by kernel_rfl)) ?_
             try go_wp2
             go_ret
             exact ⟨by first | rfl | (simp [errW_none, errW_some] <;> rfl) | (simp only [← hji44]; first | rfl | (simp [errW_none, errW_some] <;> rfl)) | (simp [*, errW_none, errW_some] <;> rfl), zz6 GE455⟩
            ·replace c60 := Bool.eq_false_iff.mpr c60
             subst c60
             have H1 : ((impl_BlockSize.f t453 t454).bind fun t461 => ((impl_BlockSize.f ((rd_T40 t429 (ji44)).f0) ((rd_T40 t429 (ji44)).f1)).bind fun t463 => ((impl_BlockSize.f ((rd_T40 t429 x9_3).f0) ((rd_T40 t429 x9_3).f1)).bind fun t465 => (if t461 = (wrap64 (t463 + t465)) then (if ((rd_T40 t429 (ji44)).f1) = ((rd_T40 t429 x9_3).f1) then (some false) else (laws_FnSetOf.l1 k3 t429 (wrap64 (x9_3 + 1)))) else (laws_FnSetOf.l1 k3 t429 (wrap64 (x9_3 + 1))))))) = some r := by rw [if_neg (show ¬ (false = true) by decide)] at H; exact H
             clear H
             have H := H1
             clear H1
             replace H := bd H
             obtain ⟨t461, A71, H⟩ := H
             replace H : ((impl_BlockSize.f ((rd_T40 t429 (ji44)).f0) ((rd_T40 t429 (ji44)).f1)).bind fun t463 => ((impl_BlockSize.f ((rd_T40 t429 x9_3).f0) ((rd_T40 t429 x9_3).f1)).bind fun t465 => (if t461 = (wrap64 (t463 + t465)) then (if ((rd_T40 t429 (ji44)).f1) = ((rd_T40 t429 x9_3).f1) then (some false) else (laws_FnSetOf.l1 k3 t429 (wrap64 (x9_3 + 1)))) else (laws_FnSetOf.l1 k3 t429 (wrap64 (x9_3 + 1)))))) = some r := H
             replace H := bd H
             obtain ⟨t463, A72, H⟩ := H
             replace H : ((impl_BlockSize.f ((rd_T40 t429 x9_3).f0) ((rd_T40 t429 x9_3).f1)).bind fun t465 => (if t461 = (wrap64 (t463 + t465)) then (if ((rd_T40 t429 (ji44)).f1) = ((rd_T40 t429 x9_3).f1) then (some false) else (laws_FnSetOf.l1 k3 t429 (wrap64 (x9_3 + 1)))) else (laws_FnSetOf.l1 k3 t429 (wrap64 (x9_3 + 1))))) = some r := H
             replace H := bd H
             obtain ⟨t465, A73, H⟩ := H
             replace H : (if t461 = (wrap64 (t463 + t465)) then (if ((rd_T40 t429 (ji44)).f1) = ((rd_T40 t429 x9_3).f1) then (some false) else (laws_FnSetOf.l1 k3 t429 (wrap64 (x9_3 + 1)))) else (laws_FnSetOf.l1 k3 t429 (wrap64 (x9_3 + 1)))) = some r := H
             by_cases c74 : t461 = (wrap64 (t463 + t465))
             ·rw [if_pos c74] at H
              have c74b0 : (t461 == (wrap64 (t463 + t465))) = true := beq_iff_eq.mpr c74
              have c74b1 : (t461 != (wrap64 (t463 + t465))) = false := bne_eq_false_iff_eq.mpr c74
              clear c74
              by_cases c75 : ((rd_T40 t429 (ji44)).f1) = ((rd_T40 t429 x9_3).f1)
              ·rw [if_pos c75] at H
               have c75b0 : (((rd_T40 t429 (ji44)).f1) == ((rd_T40 t429 x9_3).f1)) = true := beq_iff_eq.mpr c75
               have c75b1 : (((rd_T40 t429 (ji44)).f1) != ((rd_T40 t429 x9_3).f1)) = false := bne_eq_false_iff_eq.mpr c75
               clear c75
               obtain rfl := Option.some.inj H
               obtain ⟨Ao76, co76, eo76⟩ := Kd.R_slice HO_4.out
               subst eo76
               try go_wp2
               replace HO_4 := Aside0.mk (Kd.R_drew HO_4.out)
               replace HB := Aside0.mk (below_drew1 HB.out)
               obtain ⟨⟨ad451, e451, hx451_0, hx451_1⟩, p451, q451⟩ := wi (at_T40 (Kd.R_reads' HO_4.out).2.2 (ji44))
               cases e451
               obtain ⟨⟨ad452, e452, hx452_0, hx452_1⟩, p452, q452⟩ := wi (at_T40 (Kd.R_reads' HO_4.out).2.2 x9_3)
               obtain rfl : ad451 = ad452 := (by injection e452)
               refine start_ (n := 12) (S := fun w' => w'.cell? (ad451.add (((ji44)).toNat * 2)) = some (.int .i64 ((rd_T40 t429 (ji44)).f0)) ∧ w'.cell? ⟨(ad451.add (((ji44)).toNat * 2)).block, (ad451.add (((ji44)).toNat * 2)).off + 1, none⟩ = some (.int .i64 ((rd_T40 t429 (ji44)).f1)) ∧ w'.cell? (ad451.add ((x9_3).toNat * 2)) = some (.int .i64 ((rd_T40 t429 x9_3).f0)) ∧ w'.cell? ⟨(ad451.add ((x9_3).toNat * 2)).block, (ad451.add ((x9_3).toNat * 2)).off + 1, none⟩ = some (.int .i64 ((rd_T40 t429 x9_3).f1))) (ds := []) (bm 12 0) (by kernel_rfl) rfl rfl ⟨hx451_0, hx451_1, hx452_0, hx452_1⟩ (fun hHeld => ?_); refine with_tabW laws_FnSetOf.tab16 laws_FnSetOf.bits16 (fun HT_ HW_ => ?_)
               generalize wr.drew = w77 at HO_4 HB hx451_0 hx451_1 hx452_0 hx452_1 hHeld ⊢
               refine pu 0 86 (bm 12 1) ?_
               refine pu 1 87 (bm 12 3) ?_
               refine pu 2 88 (bm 12 7) ?_
               refine pu 3 89 (bm 12 15) ?_
               refine pu 5 91 (bm 12 47) ?_
               refine pu 6 92 (bm 12 111) ?_
               refine pu 7 93 (bm 12 239) ?_
               refine tk 4 90 (bm 12 255) ?_
               refine tk 8 94 (bm 12 511) ?_
               refine join_ (σ := Nat) 1 (bm 12 2047) (fun s_ => [(95, .agg #[.int .i64 t453, .int .i64 t454]), (10, .pointer (some ⟨s_, 0, none⟩))]) (fun s_ w' => (w'.cell? (ad451.add (((ji44)).toNat * 2)) = some (.int .i64 ((rd_T40 t429 (ji44)).f0)) ∧ w'.cell? ⟨(ad451.add (((ji44)).toNat * 2)).block, (ad451.add (((ji44)).toNat * 2)).off + 1, none⟩ = some (.int .i64 ((rd_T40 t429 (ji44)).f1)) ∧ w'.cell? (ad451.add ((x9_3).toNat * 2)) = some (.int .i64 ((rd_T40 t429 x9_3).f0)) ∧ w'.cell? ⟨(ad451.add ((x9_3).toNat * 2)).block, (ad451.add ((x9_3).toNat * 2)).off + 1, none⟩ = some (.int .i64 ((rd_T40 t429 x9_3).f1))) ∧ (Kd.R k40 40 w' w.heap.size (fun k_ => k_ ≠ s_) (.slice (some ad451) t429.length co76) t429) ∧ (w'.heap[s_]? = some (.cells #[.int .i64 0, .int .i64 0] 40 (0, 0))) ∧ (w.heap.size ≤ s_) ∧ (w.heap.size ≤ s_) ∧ (Below w.heap.size w w')) ?_ ?_
               rotate_left
               ·intro hCont
                refine two_ (i := 9) (j := 10) (Ni := some 95) (Nj := some 10) (bm 12 1023) (bm 12 1535) rfl rfl rfl rfl (two_of HT_.out (by kernel_rfl)) (by decide) (by decide) (fun K hK => ?_) (fun K hK => ?_)
                ·skip
                 refine goes_ Try.func24 (by kernel_rfl) rfl #[.agg #[.int .i64 ((rd_T40 t429 (ji44)).f0), .int .i64 ((rd_T40 t429 (ji44)).f1)], .agg #[.int .i64 ((rd_T40 t429 x9_3).f0), .int .i64 ((rd_T40 t429 x9_3).f1)]] (by rfl) rfl rfl (by (try simp only [List.map_toArray, List.map_cons, List.map_nil]); first | done | (simp only [hji44]; rfl) | rfl | (simp only [List.length_drop, List.length_take]; rfl)) ?_
                 with_reducible refine (impl_BlockOver.calls k3 ((rd_T40 t429 (ji44)).f0) ((rd_T40 t429 (ji44)).f1) ((rd_T40 t429 x9_3).f0) ((rd_T40 t429 x9_3).f1) t453 t454 _ A48.out).mono ?_
                 rintro e w78 ⟨rfl, hb⟩
                 have HS0_ := (hb.cell (World.block_lt_of_cell? _ _ (hHeld.1))).trans (hHeld.1)
                 have HS1_ := (hb.cell (World.block_lt_of_cell? _ _ (hHeld.2.1))).trans (hHeld.2.1)
                 have HS2_ := (hb.cell (World.block_lt_of_cell? _ _ (hHeld.2.2.1))).trans (hHeld.2.2.1)
                 have HS3_ := (hb.cell (World.block_lt_of_cell? _ _ (hHeld.2.2.2))).trans (hHeld.2.2.2)
                 refine ⟨_, rfl, ?_⟩
                 replace HO_4 := Aside0.mk (Kd.R_below (zz12 HO_4) hb)
                 replace HB := Aside0.mk (below_step zz5 hb)
                 (try clear hb)
                 (try clear hb2)
                 (try clear hk)
                 (try clear hi)
                 refine hK.out _ _ ⟨HS0_, HS1_, HS2_, HS3_⟩ (fun hHeld => ?_)
                 clear hK K
                 refine nm 95 ?_
                 refine on 10 (some 10) (bm 12 2047) (fun K hK => ?_)
                 refine bs 10 #[.int .i64 0, .int .i64 0] 40 ?_
                 intro gb455 hg w79 hbox hb
                 have HS0_ := (hb.cell (World.block_lt_of_cell? _ _ (hHeld.1))).trans (hHeld.1)
                 have HS1_ := (hb.cell (World.block_lt_of_cell? _ _ (hHeld.2.1))).trans (hHeld.2.1)
                 have HS2_ := (hb.cell (World.block_lt_of_cell? _ _ (hHeld.2.2.1))).trans (hHeld.2.2.1)
                 have HS3_ := (hb.cell (World.block_lt_of_cell? _ _ (hHeld.2.2.2))).trans (hHeld.2.2.2)
                 replace HO_4 := Aside0.mk (Kd.R_below (Kd.R_elderB (zz12 HO_4) gb455 (Nat.le_of_eq hg.symm)) hb)
                 have BK455 := Aside0.mk hbox
                 have GW455 := Aside0.mk (zz4 : w.heap.size ≤ gb455)
                 have GE455 := Aside0.mk (zz4 : w.heap.size ≤ gb455)
                 replace HB := Aside0.mk (below_step zz5 hb)
                 clear hb hbox hg
                 refine hK.out _ _ ⟨HS0_, HS1_, HS2_, HS3_⟩ (fun hHeld => ?_)
                 clear hK K
                 refine nm 10 ?_
                 exact norm_ zz43 (hCont (gb455) _ ⟨hHeld, (zz20 HO_4), (zz7 BK455), GW455.out, GE455.out, (zz6 GE455)⟩)
                ·skip
                 refine bs 10 #[.int .i64 0, .int .i64 0] 40 ?_
                 intro gb455 hg w78 hbox hb
                 have HS0_ := (hb.cell (World.block_lt_of_cell? _ _ (hHeld.1))).trans (hHeld.1)
                 have HS1_ := (hb.cell (World.block_lt_of_cell? _ _ (hHeld.2.1))).trans (hHeld.2.1)
                 have HS2_ := (hb.cell (World.block_lt_of_cell? _ _ (hHeld.2.2.1))).trans (hHeld.2.2.1)
                 have HS3_ := (hb.cell (World.block_lt_of_cell? _ _ (hHeld.2.2.2))).trans (hHeld.2.2.2)
                 replace HO_4 := Aside0.mk (Kd.R_below (Kd.R_elderB (zz12 HO_4) gb455 (Nat.le_of_eq hg.symm)) hb)
                 have BK455 := Aside0.mk hbox
                 have GW455 := Aside0.mk (zz4 : w.heap.size ≤ gb455)
                 have GE455 := Aside0.mk (zz4 : w.heap.size ≤ gb455)
                 replace HB := Aside0.mk (below_step zz5 hb)
                 clear hb hbox hg
                 refine hK.out _ _ ⟨HS0_, HS1_, HS2_, HS3_⟩ (fun hHeld => ?_)
                 clear hK K
                 refine nm 10 ?_
                 refine on 9 (some 95) (bm 12 2047) (fun K hK => ?_)
                 refine goes_ Try.func24 (by kernel_rfl) rfl #[.agg #[.int .i64 ((rd_T40 t429 (ji44)).f0), .int .i64 ((rd_T40 t429 (ji44)).f1)], .agg #[.int .i64 ((rd_T40 t429 x9_3).f0), .int .i64 ((rd_T40 t429 x9_3).f1)]] (by rfl) rfl rfl (by (try simp only [List.map_toArray, List.map_cons, List.map_nil]); first | done | (simp only [hji44]; rfl) | rfl | (simp only [List.length_drop, List.length_take]; rfl)) ?_
                 with_reducible refine (impl_BlockOver.calls k3 ((rd_T40 t429 (ji44)).f0) ((rd_T40 t429 (ji44)).f1) ((rd_T40 t429 x9_3).f0) ((rd_T40 t429 x9_3).f1) t453 t454 _ A48.out).mono ?_
                 rintro e w79 ⟨rfl, hb⟩
                 have HS0_ := (hb.cell (World.block_lt_of_cell? _ _ (hHeld.1))).trans (hHeld.1)
                 have HS1_ := (hb.cell (World.block_lt_of_cell? _ _ (hHeld.2.1))).trans (hHeld.2.1)
                 have HS2_ := (hb.cell (World.block_lt_of_cell? _ _ (hHeld.2.2.1))).trans (hHeld.2.2.1)
                 have HS3_ := (hb.cell (World.block_lt_of_cell? _ _ (hHeld.2.2.2))).trans (hHeld.2.2.2)
                 refine ⟨_, rfl, ?_⟩
                 replace HO_4 := Aside0.mk (Kd.R_below (zz12 HO_4) hb)
                 replace BK455 := Aside0.mk (blk_below (g := gb455) (o := .cells #[.int .i64 0, .int .i64 0] 40 (0, 0)) (zz7 BK455) hb)
                 replace HB := Aside0.mk (below_step (zz6 GE455) hb)
                 (try clear hb)
                 (try clear hb2)
                 (try clear hk)
                 (try clear hi)
                 refine hK.out _ _ ⟨HS0_, HS1_, HS2_, HS3_⟩ (fun hHeld => ?_)
                 clear hK K
                 refine nm 95 ?_
                 exact norm_ zz43 (hCont (gb455) _ ⟨hHeld, (zz20 HO_4), (zz7 BK455), GW455.out, GE455.out, (zz6 GE455)⟩)
               rintro gb455 w80 ⟨hS_, h0_, h1_, h2_, h3_, h4_⟩
               replace HO_4 : Aside0 (Kd.R k40 40 w80 w.heap.size (fun k_ => k_ ≠ gb455) (.slice (some ad451) t429.length co76) t429) := ⟨h0_⟩
               have BK455 : Aside0 (w80.heap[gb455]? = some (.cells #[.int .i64 0, .int .i64 0] 40 (0, 0))) := ⟨h1_⟩
               have GW455 : Aside0 (w.heap.size ≤ gb455) := ⟨h2_⟩
               have GE455 : Aside0 (w.heap.size ≤ gb455) := ⟨h3_⟩
               replace HB : Aside0 (Below w.heap.size w w80) := ⟨h4_⟩
               clear h0_ h1_ h2_ h3_ h4_
               have hHeld : w80.cell? (ad451.add (((ji44)).toNat * 2)) = some (.int .i64 ((rd_T40 t429 (ji44)).f0)) ∧ w80.cell? ⟨(ad451.add (((ji44)).toNat * 2)).block, (ad451.add (((ji44)).toNat * 2)).off + 1, none⟩ = some (.int .i64 ((rd_T40 t429 (ji44)).f1)) ∧ w80.cell? (ad451.add ((x9_3).toNat * 2)) = some (.int .i64 ((rd_T40 t429 x9_3).f0)) ∧ w80.cell? ⟨(ad451.add ((x9_3).toNat * 2)).block, (ad451.add ((x9_3).toNat * 2)).off + 1, none⟩ = some (.int .i64 ((rd_T40 t429 x9_3).f1)) := hS_
               refine norm_ (a' := ?_) ?_ ?_
               rotate_left
               ·simp only [putAll, Act.put, List.setIfInBounds_toArray, List.set_cons_zero, List.set_cons_succ]
                rfl
               refine on 11 none (bm 12 4095) (fun K hK => ?_)
               have hs81 : w80.cell? ⟨gb455, 0, none⟩ = some (.int .i64 0) := (blk_cell BK455.out 0).trans rfl
               have hfs81 := blk_frozen BK455.out 0
               have hs82 : w80.cell? ⟨gb455, 1, none⟩ = some (.int .i64 0) := (blk_cell BK455.out 1).trans rfl
               have hfs82 := blk_frozen BK455.out 1
               refine skip_ (w1 := ?_) (by rfl) rfl ?_ ?_
               rotate_left
               ·go_simp
                rfl
               refine hK.out _ _ ⟨((cell_far (p := ⟨gb455, _, none⟩) (zz61 HO_4) _).trans (((cell_far (p := ⟨gb455, _, none⟩) (zz61 HO_4) _).trans (hHeld.1)))), ((cell_far (p := ⟨gb455, _, none⟩) (zz61 HO_4) _).trans (((cell_far (p := ⟨gb455, _, none⟩) (zz61 HO_4) _).trans (hHeld.2.1)))), ((cell_far (p := ⟨gb455, _, none⟩) (zz61 HO_4) _).trans (((cell_far (p := ⟨gb455, _, none⟩) (zz61 HO_4) _).trans (hHeld.2.2.1)))), ((cell_far (p := ⟨gb455, _, none⟩) (zz61 HO_4) _).trans (((cell_far (p := ⟨gb455, _, none⟩) (zz61 HO_4) _).trans (hHeld.2.2.2))))⟩ (fun hHeld => ?_)
               clear hK K
               refine done_ (done_of HT_.out (by kernel_rfl)) ?_
               try go_wp2
               have n0_ : Aside0 (Kd.R k40 40 ((w80.setCell ⟨gb455, 0, none⟩ (.int .i64 t453)).setCell ⟨gb455, 1, none⟩ (.int .i64 t454)) w.heap.size (fun k_ => k_ ≠ gb455) (.slice (some ad451) t429.length co76) t429) := ⟨by (with_reducible repeat (first | apply Kd.R_alloc | apply Kd.R_drewN | apply Kd.R_drew)); exact Kd.R_mono (Kd.R_far (p := ⟨gb455, 1, none⟩) (Kd.R_far (p := ⟨gb455, 0, none⟩) (Kd.R_mono HO_4.out (fun k_ hk => (⟨hk, hk⟩ : _ ∧ k_ ≠ gb455))) (fun _ hk => hk.2) (.int .i64 t453)) (fun _ hk => hk.2) (.int .i64 t454)) (fun _ hk => hk.1)⟩
               have n1_ : Aside0 (((w80.setCell ⟨gb455, 0, none⟩ (.int .i64 t453)).setCell ⟨gb455, 1, none⟩ (.int .i64 t454)).heap[gb455]? = some (.cells #[.int .i64 t453, .int .i64 t454] 40 (0, 0))) := ⟨by (with_reducible repeat (first | refine blk_drewN ?_ _ | refine blk_drew ?_ | refine blk_alloc ?_ _)); refine blk_put (cs := #[.int .i64 t453, .int .i64 0]) ?_ 1 _ rfl; (with_reducible repeat (first | refine blk_drewN ?_ _ | refine blk_drew ?_ | refine blk_alloc ?_ _)); refine blk_put (cs := #[.int .i64 0, .int .i64 0]) ?_ 0 _ rfl; (with_reducible repeat (first | refine blk_drewN ?_ _ | refine blk_drew ?_ | refine blk_alloc ?_ _)); exact BK455.out⟩
               have n2_ : Aside0 (Below w.heap.size w ((w80.setCell ⟨gb455, 0, none⟩ (.int .i64 t453)).setCell ⟨gb455, 1, none⟩ (.int .i64 t454))) := ⟨zz6 GE455⟩
               (try clear HO_4)
               (try clear BK455)
               (try clear HB)
               generalize ((w80.setCell ⟨gb455, 0, none⟩ (.int .i64 t453)).setCell ⟨gb455, 1, none⟩ (.int .i64 t454)) = w83 at n0_ n1_ n2_ ⊢
               have HO_4 := n0_
               have BK455 := n1_
               have HB := n2_
               clear n0_ n1_ n2_
               replace HO_4 := Aside0.mk (Kd.R_drew HO_4.out)
               replace BK455 := Aside0.mk (blk_drew BK455.out)
               replace HB := Aside0.mk (below_drew1 HB.out)
               obtain ⟨⟨ad456, e456, hx456_0, hx456_1⟩, p456, q456⟩ := wi (at_T40 (Kd.R_reads' HO_4.out).2.2 (ji44))
               obtain rfl : ad451 = ad456 := (by injection e456)
               obtain ⟨⟨ad457, e457, hx457_0, hx457_1⟩, p457, q457⟩ := wi (at_T40 (Kd.R_reads' HO_4.out).2.2 x9_3)
               obtain rfl : ad451 = ad457 := (by injection e457)
               obtain ⟨⟨ad458, e458, hx458_0, hx458_1⟩, p458, q458⟩ := wi (at_T40 (Kd.R_reads' HO_4.out).2.2 (ji44))
               obtain rfl : ad451 = ad458 := (by injection e458)
               obtain ⟨⟨ad459, e459, hx459_0, hx459_1⟩, p459, q459⟩ := wi (at_T40 (Kd.R_reads' HO_4.out).2.2 x9_3)
               obtain rfl : ad451 = ad459 := (by injection e459)
               obtain ⟨⟨ad462, e462, hx462_0, hx462_1⟩, p462, q462⟩ := wi (at_T40 (Kd.R_reads' HO_4.out).2.2 (ji44))
               obtain rfl : ad451 = ad462 := (by injection e462)
               obtain ⟨⟨ad464, e464, hx464_0, hx464_1⟩, p464, q464⟩ := wi (at_T40 (Kd.R_reads' HO_4.out).2.2 x9_3)
               obtain rfl : ad451 = ad464 := (by injection e464)
               obtain ⟨⟨ad466, e466, hx466_0, hx466_1⟩, p466, q466⟩ := wi (at_T40 (Kd.R_reads' HO_4.out).2.2 (ji44))
               obtain rfl : ad451 = ad466 := (by injection e466)
               obtain ⟨⟨ad467, e467, hx467_0, hx467_1⟩, p467, q467⟩ := wi (at_T40 (Kd.R_reads' HO_4.out).2.2 x9_3)
               obtain rfl : ad451 = ad467 := (by injection e467)
               refine start_ (n := 55) (S := fun w' => w'.cell? ⟨gb455, 0, none⟩ = some (.int .i64 t453) ∧ w'.cell? ⟨gb455, 1, none⟩ = some (.int .i64 t454) ∧ w'.cell? (ad451.add (((ji44)).toNat * 2)) = some (.int .i64 ((rd_T40 t429 (ji44)).f0)) ∧ w'.cell? ⟨(ad451.add (((ji44)).toNat * 2)).block, (ad451.add (((ji44)).toNat * 2)).off + 1, none⟩ = some (.int .i64 ((rd_T40 t429 (ji44)).f1)) ∧ w'.cell? (ad451.add ((x9_3).toNat * 2)) = some (.int .i64 ((rd_T40 t429 x9_3).f0)) ∧ w'.cell? ⟨(ad451.add ((x9_3).toNat * 2)).block, (ad451.add ((x9_3).toNat * 2)).off + 1, none⟩ = some (.int .i64 ((rd_T40 t429 x9_3).f1)) ∧ w'.cell? (ad451.add (((ji44)).toNat * 2)) = some (.int .i64 ((rd_T40 t429 (ji44)).f0)) ∧ w'.cell? ⟨(ad451.add (((ji44)).toNat * 2)).block, (ad451.add (((ji44)).toNat * 2)).off + 1, none⟩ = some (.int .i64 ((rd_T40 t429 (ji44)).f1)) ∧ w'.cell? (ad451.add ((x9_3).toNat * 2)) = some (.int .i64 ((rd_T40 t429 x9_3).f0)) ∧ w'.cell? ⟨(ad451.add ((x9_3).toNat * 2)).block, (ad451.add ((x9_3).toNat * 2)).off + 1, none⟩ = some (.int .i64 ((rd_T40 t429 x9_3).f1)) ∧ w'.cell? (ad451.add (((ji44)).toNat * 2)) = some (.int .i64 ((rd_T40 t429 (ji44)).f0)) ∧ w'.cell? ⟨(ad451.add (((ji44)).toNat * 2)).block, (ad451.add (((ji44)).toNat * 2)).off + 1, none⟩ = some (.int .i64 ((rd_T40 t429 (ji44)).f1)) ∧ w'.cell? (ad451.add ((x9_3).toNat * 2)) = some (.int .i64 ((rd_T40 t429 x9_3).f0)) ∧ w'.cell? ⟨(ad451.add ((x9_3).toNat * 2)).block, (ad451.add ((x9_3).toNat * 2)).off + 1, none⟩ = some (.int .i64 ((rd_T40 t429 x9_3).f1)) ∧ w'.cell? (ad451.add (((ji44)).toNat * 2)) = some (.int .i64 ((rd_T40 t429 (ji44)).f0)) ∧ w'.cell? ⟨(ad451.add (((ji44)).toNat * 2)).block, (ad451.add (((ji44)).toNat * 2)).off + 1, none⟩ = some (.int .i64 ((rd_T40 t429 (ji44)).f1)) ∧ w'.cell? (ad451.add ((x9_3).toNat * 2)) = some (.int .i64 ((rd_T40 t429 x9_3).f0)) ∧ w'.cell? ⟨(ad451.add ((x9_3).toNat * 2)).block, (ad451.add ((x9_3).toNat * 2)).off + 1, none⟩ = some (.int .i64 ((rd_T40 t429 x9_3).f1))) (ds := []) (bm 55 0) (by kernel_rfl) rfl rfl ⟨(blk_cell BK455.out 0).trans rfl, (blk_cell BK455.out 1).trans rfl, hx456_0, hx456_1, hx457_0, hx457_1, hx458_0, hx458_1, hx459_0, hx459_1, hx462_0, hx462_1, hx464_0, hx464_1, hx466_0, hx466_1, hx467_0, hx467_1⟩ (fun hHeld => ?_); refine with_tabW laws_FnSetOf.tab17 laws_FnSetOf.bits17 (fun HT_ HW_ => ?_)
               generalize w83.drew = w84 at HO_4 BK455 HB hx456_0 hx456_1 hx457_0 hx457_1 hx458_0 hx458_1 hx459_0 hx459_1 hx462_0 hx462_1 hx464_0 hx464_1 hx466_0 hx466_1 hx467_0 hx467_1 hHeld ⊢
               refine pu 0 96 (bm 55 1) ?_
               refine pu 1 97 (bm 55 3) ?_
               refine pu 2 98 (bm 55 7) ?_
               refine pu 3 99 (bm 55 15) ?_
               refine pu 4 100 (bm 55 31) ?_
               refine pu 6 102 (bm 55 95) ?_
               refine pu 7 103 (bm 55 223) ?_
               refine pu 8 104 (bm 55 479) ?_
               refine pu 9 105 (bm 55 991) ?_
               refine tk 5 101 (bm 55 1023) ?_
               refine tk 10 106 (bm 55 2047) ?_
               refine pu 11 107 (bm 55 4095) ?_
               refine pu 12 108 (bm 55 8191) ?_
               refine pu 13 109 (bm 55 16383) ?_
               refine pu 14 110 (bm 55 32767) ?_
               refine pu 15 111 (bm 55 65535) ?_
               refine pu 16 112 (bm 55 131071) ?_
               refine pu 18 114 (bm 55 393215) ?_
               refine pu 19 115 (bm 55 917503) ?_
               refine pu 20 116 (bm 55 1966079) ?_
               refine tk 17 113 (bm 55 2097151) ?_
               refine tk 21 117 (bm 55 4194303) ?_
               refine on 22 (some 118) (bm 55 8388607) (fun K hK => ?_)
               refine goes_ Try.func25 (by kernel_rfl) rfl #[.agg #[.int .i64 ((rd_T40 t429 (ji44)).f0), .int .i64 ((rd_T40 t429 (ji44)).f1)], .agg #[.int .i64 ((rd_T40 t429 x9_3).f0), .int .i64 ((rd_T40 t429 x9_3).f1)]] (by rfl) rfl rfl (by (try simp only [List.map_toArray, List.map_cons, List.map_nil]); first | done | (simp only [hji44]; rfl) | rfl | (simp only [List.length_drop, List.length_take]; rfl)) ?_
               with_reducible refine (impl_BlockMeets.calls ((rd_T40 t429 (ji44)).f0) ((rd_T40 t429 (ji44)).f1) ((rd_T40 t429 x9_3).f0) ((rd_T40 t429 x9_3).f1) false _ A59.out).mono ?_
               rintro e w85 ⟨rfl, hb⟩
               have HS2_ := (hb.cell (World.block_lt_of_cell? _ _ (hHeld.2.2.1))).trans (hHeld.2.2.1)
               have HS3_ := (hb.cell (World.block_lt_of_cell? _ _ (hHeld.2.2.2.1))).trans (hHeld.2.2.2.1)
               have HS4_ := (hb.cell (World.block_lt_of_cell? _ _ (hHeld.2.2.2.2.1))).trans (hHeld.2.2.2.2.1)
               have HS5_ := (hb.cell (World.block_lt_of_cell? _ _ (hHeld.2.2.2.2.2.1))).trans (hHeld.2.2.2.2.2.1)
               have HS6_ := (hb.cell (World.block_lt_of_cell? _ _ (hHeld.2.2.2.2.2.2.1))).trans (hHeld.2.2.2.2.2.2.1)
               have HS7_ := (hb.cell (World.block_lt_of_cell? _ _ (hHeld.2.2.2.2.2.2.2.1))).trans (hHeld.2.2.2.2.2.2.2.1)
               have HS8_ := (hb.cell (World.block_lt_of_cell? _ _ (hHeld.2.2.2.2.2.2.2.2.1))).trans (hHeld.2.2.2.2.2.2.2.2.1)
               have HS9_ := (hb.cell (World.block_lt_of_cell? _ _ (hHeld.2.2.2.2.2.2.2.2.2.1))).trans (hHeld.2.2.2.2.2.2.2.2.2.1)
               have HS10_ := (hb.cell (World.block_lt_of_cell? _ _ (hHeld.2.2.2.2.2.2.2.2.2.2.1))).trans (hHeld.2.2.2.2.2.2.2.2.2.2.1)
               have HS11_ := (hb.cell (World.block_lt_of_cell? _ _ (hHeld.2.2.2.2.2.2.2.2.2.2.2.1))).trans (hHeld.2.2.2.2.2.2.2.2.2.2.2.1)
               have HS12_ := (hb.cell (World.block_lt_of_cell? _ _ (hHeld.2.2.2.2.2.2.2.2.2.2.2.2.1))).trans (hHeld.2.2.2.2.2.2.2.2.2.2.2.2.1)
               have HS13_ := (hb.cell (World.block_lt_of_cell? _ _ (hHeld.2.2.2.2.2.2.2.2.2.2.2.2.2.1))).trans (hHeld.2.2.2.2.2.2.2.2.2.2.2.2.2.1)
               have HS14_ := (hb.cell (World.block_lt_of_cell? _ _ (hHeld.2.2.2.2.2.2.2.2.2.2.2.2.2.2.1))).trans (hHeld.2.2.2.2.2.2.2.2.2.2.2.2.2.2.1)
               have HS15_ := (hb.cell (World.block_lt_of_cell? _ _ (hHeld.2.2.2.2.2.2.2.2.2.2.2.2.2.2.2.1))).trans (hHeld.2.2.2.2.2.2.2.2.2.2.2.2.2.2.2.1)
               have HS16_ := (hb.cell (World.block_lt_of_cell? _ _ (hHeld.2.2.2.2.2.2.2.2.2.2.2.2.2.2.2.2.1))).trans (hHeld.2.2.2.2.2.2.2.2.2.2.2.2.2.2.2.2.1)
               have HS17_ := (hb.cell (World.block_lt_of_cell? _ _ (hHeld.2.2.2.2.2.2.2.2.2.2.2.2.2.2.2.2.2))).trans (hHeld.2.2.2.2.2.2.2.2.2.2.2.2.2.2.2.2.2)
               refine ⟨_, rfl, ?_⟩
               replace HO_4 := Aside0.mk (Kd.R_below (zz12 HO_4) hb)
               replace BK455 := Aside0.mk (blk_below (g := gb455) (o := .cells #[.int .i64 t453, .int .i64 t454] 40 (0, 0)) (zz7 BK455) hb)
               replace HB := Aside0.mk (below_step (zz6 GE455) hb)
               (try clear hb)
               (try clear hb2)
               (try clear hk)
               (try clear hi)
               refine hK.out _ _ ⟨(blk_cell BK455.out 0).trans rfl, (blk_cell BK455.out 1).trans rfl, HS2_, HS3_, HS4_, HS5_, HS6_, HS7_, HS8_, HS9_, HS10_, HS11_, HS12_, HS13_, HS14_, HS15_, HS16_, HS17_⟩ (fun hHeld => ?_)
               clear hK K
               refine nm 118 ?_
               refine pu 23 119 (bm 55 16777215) ?_
               refine pu 24 120 (bm 55 33554431) ?_
               refine pu 27 123 (bm 55 167772159) ?_
               refine pu 28 124 (bm 55 436207615) ?_
               refine pu 29 125 (bm 55 973078527) ?_
               refine pu 30 126 (bm 55 2046820351) ?_
               refine pu 33 129 (bm 55 10636754943) ?_
               refine pu 34 130 (bm 55 27816624127) ?_
               refine pu 35 131 (bm 55 62176362495) ?_
               refine tk 25 121 (bm 55 62209916927) ?_
               refine tk 31 127 (bm 55 64357400575) ?_
               refine tk 36 132 (bm 55 133076877311) ?_
               refine on 26 (some 122) (bm 55 133143986175) (fun K hK => ?_)
               refine gs Try.func23 #[.agg #[.int .i64 t453, .int .i64 t454]] ?_
               with_reducible refine (impl_BlockSize.calls t453 t454 t461 _ A71.out).mono ?_
               rintro e w86 ⟨rfl, hb⟩
               have HS2_ := (hb.cell (World.block_lt_of_cell? _ _ (hHeld.2.2.1))).trans (hHeld.2.2.1)
               have HS3_ := (hb.cell (World.block_lt_of_cell? _ _ (hHeld.2.2.2.1))).trans (hHeld.2.2.2.1)
               have HS4_ := (hb.cell (World.block_lt_of_cell? _ _ (hHeld.2.2.2.2.1))).trans (hHeld.2.2.2.2.1)
               have HS5_ := (hb.cell (World.block_lt_of_cell? _ _ (hHeld.2.2.2.2.2.1))).trans (hHeld.2.2.2.2.2.1)
               have HS6_ := (hb.cell (World.block_lt_of_cell? _ _ (hHeld.2.2.2.2.2.2.1))).trans (hHeld.2.2.2.2.2.2.1)
               have HS7_ := (hb.cell (World.block_lt_of_cell? _ _ (hHeld.2.2.2.2.2.2.2.1))).trans (hHeld.2.2.2.2.2.2.2.1)
               have HS8_ := (hb.cell (World.block_lt_of_cell? _ _ (hHeld.2.2.2.2.2.2.2.2.1))).trans (hHeld.2.2.2.2.2.2.2.2.1)
               have HS9_ := (hb.cell (World.block_lt_of_cell? _ _ (hHeld.2.2.2.2.2.2.2.2.2.1))).trans (hHeld.2.2.2.2.2.2.2.2.2.1)
               have HS10_ := (hb.cell (World.block_lt_of_cell? _ _ (hHeld.2.2.2.2.2.2.2.2.2.2.1))).trans (hHeld.2.2.2.2.2.2.2.2.2.2.1)
               have HS11_ := (hb.cell (World.block_lt_of_cell? _ _ (hHeld.2.2.2.2.2.2.2.2.2.2.2.1))).trans (hHeld.2.2.2.2.2.2.2.2.2.2.2.1)
               have HS12_ := (hb.cell (World.block_lt_of_cell? _ _ (hHeld.2.2.2.2.2.2.2.2.2.2.2.2.1))).trans (hHeld.2.2.2.2.2.2.2.2.2.2.2.2.1)
               have HS13_ := (hb.cell (World.block_lt_of_cell? _ _ (hHeld.2.2.2.2.2.2.2.2.2.2.2.2.2.1))).trans (hHeld.2.2.2.2.2.2.2.2.2.2.2.2.2.1)
               have HS14_ := (hb.cell (World.block_lt_of_cell? _ _ (hHeld.2.2.2.2.2.2.2.2.2.2.2.2.2.2.1))).trans (hHeld.2.2.2.2.2.2.2.2.2.2.2.2.2.2.1)
               have HS15_ := (hb.cell (World.block_lt_of_cell? _ _ (hHeld.2.2.2.2.2.2.2.2.2.2.2.2.2.2.2.1))).trans (hHeld.2.2.2.2.2.2.2.2.2.2.2.2.2.2.2.1)
               have HS16_ := (hb.cell (World.block_lt_of_cell? _ _ (hHeld.2.2.2.2.2.2.2.2.2.2.2.2.2.2.2.2.1))).trans (hHeld.2.2.2.2.2.2.2.2.2.2.2.2.2.2.2.2.1)
               have HS17_ := (hb.cell (World.block_lt_of_cell? _ _ (hHeld.2.2.2.2.2.2.2.2.2.2.2.2.2.2.2.2.2))).trans (hHeld.2.2.2.2.2.2.2.2.2.2.2.2.2.2.2.2.2)
               refine ⟨_, rfl, ?_⟩
               replace HO_4 := Aside0.mk (Kd.R_below (zz12 HO_4) hb)
               replace BK455 := Aside0.mk (blk_below (g := gb455) (o := .cells #[.int .i64 t453, .int .i64 t454] 40 (0, 0)) (zz7 BK455) hb)
               replace HB := Aside0.mk (below_step (zz6 GE455) hb)
               (try clear hb)
               (try clear hb2)
               (try clear hk)
               (try clear hi)
               refine hK.out _ _ ⟨(blk_cell BK455.out 0).trans rfl, (blk_cell BK455.out 1).trans rfl, HS2_, HS3_, HS4_, HS5_, HS6_, HS7_, HS8_, HS9_, HS10_, HS11_, HS12_, HS13_, HS14_, HS15_, HS16_, HS17_⟩ (fun hHeld => ?_)
               clear hK K
               refine nm 122 ?_
               refine on 32 (some 128) (bm 55 137438953471) (fun K hK => ?_)
               refine goes_ Try.func23 (by kernel_rfl) rfl #[.agg #[.int .i64 ((rd_T40 t429 (ji44)).f0), .int .i64 ((rd_T40 t429 (ji44)).f1)]] (by rfl) rfl rfl (by (try simp only [List.map_toArray, List.map_cons, List.map_nil]); first | done | (simp only [hji44]; rfl) | rfl | (simp only [List.length_drop, List.length_take]; rfl)) ?_
               with_reducible refine (impl_BlockSize.calls ((rd_T40 t429 (ji44)).f0) ((rd_T40 t429 (ji44)).f1) t463 _ A72.out).mono ?_
               rintro e w87 ⟨rfl, hb⟩
               have HS2_ := (hb.cell (World.block_lt_of_cell? _ _ (hHeld.2.2.1))).trans (hHeld.2.2.1)
               have HS3_ := (hb.cell (World.block_lt_of_cell? _ _ (hHeld.2.2.2.1))).trans (hHeld.2.2.2.1)
               have HS4_ := (hb.cell (World.block_lt_of_cell? _ _ (hHeld.2.2.2.2.1))).trans (hHeld.2.2.2.2.1)
               have HS5_ := (hb.cell (World.block_lt_of_cell? _ _ (hHeld.2.2.2.2.2.1))).trans (hHeld.2.2.2.2.2.1)
               have HS6_ := (hb.cell (World.block_lt_of_cell? _ _ (hHeld.2.2.2.2.2.2.1))).trans (hHeld.2.2.2.2.2.2.1)
               have HS7_ := (hb.cell (World.block_lt_of_cell? _ _ (hHeld.2.2.2.2.2.2.2.1))).trans (hHeld.2.2.2.2.2.2.2.1)
               have HS8_ := (hb.cell (World.block_lt_of_cell? _ _ (hHeld.2.2.2.2.2.2.2.2.1))).trans (hHeld.2.2.2.2.2.2.2.2.1)
               have HS9_ := (hb.cell (World.block_lt_of_cell? _ _ (hHeld.2.2.2.2.2.2.2.2.2.1))).trans (hHeld.2.2.2.2.2.2.2.2.2.1)
               have HS10_ := (hb.cell (World.block_lt_of_cell? _ _ (hHeld.2.2.2.2.2.2.2.2.2.2.1))).trans (hHeld.2.2.2.2.2.2.2.2.2.2.1)
               have HS11_ := (hb.cell (World.block_lt_of_cell? _ _ (hHeld.2.2.2.2.2.2.2.2.2.2.2.1))).trans (hHeld.2.2.2.2.2.2.2.2.2.2.2.1)
               have HS12_ := (hb.cell (World.block_lt_of_cell? _ _ (hHeld.2.2.2.2.2.2.2.2.2.2.2.2.1))).trans (hHeld.2.2.2.2.2.2.2.2.2.2.2.2.1)
               have HS13_ := (hb.cell (World.block_lt_of_cell? _ _ (hHeld.2.2.2.2.2.2.2.2.2.2.2.2.2.1))).trans (hHeld.2.2.2.2.2.2.2.2.2.2.2.2.2.1)
               have HS14_ := (hb.cell (World.block_lt_of_cell? _ _ (hHeld.2.2.2.2.2.2.2.2.2.2.2.2.2.2.1))).trans (hHeld.2.2.2.2.2.2.2.2.2.2.2.2.2.2.1)
               have HS15_ := (hb.cell (World.block_lt_of_cell? _ _ (hHeld.2.2.2.2.2.2.2.2.2.2.2.2.2.2.2.1))).trans (hHeld.2.2.2.2.2.2.2.2.2.2.2.2.2.2.2.1)
               have HS16_ := (hb.cell (World.block_lt_of_cell? _ _ (hHeld.2.2.2.2.2.2.2.2.2.2.2.2.2.2.2.2.1))).trans (hHeld.2.2.2.2.2.2.2.2.2.2.2.2.2.2.2.2.1)
               have HS17_ := (hb.cell (World.block_lt_of_cell? _ _ (hHeld.2.2.2.2.2.2.2.2.2.2.2.2.2.2.2.2.2))).trans (hHeld.2.2.2.2.2.2.2.2.2.2.2.2.2.2.2.2.2)
               refine ⟨_, rfl, ?_⟩
               replace HO_4 := Aside0.mk (Kd.R_below (zz12 HO_4) hb)
               replace BK455 := Aside0.mk (blk_below (g := gb455) (o := .cells #[.int .i64 t453, .int .i64 t454] 40 (0, 0)) (zz7 BK455) hb)
               replace HB := Aside0.mk (below_step (zz6 GE455) hb)
               (try clear hb)
               (try clear hb2)
               (try clear hk)
               (try clear hi)
               refine hK.out _ _ ⟨(blk_cell BK455.out 0).trans rfl, (blk_cell BK455.out 1).trans rfl, HS2_, HS3_, HS4_, HS5_, HS6_, HS7_, HS8_, HS9_, HS10_, HS11_, HS12_, HS13_, HS14_, HS15_, HS16_, HS17_⟩ (fun hHeld => ?_)
               clear hK K
               refine nm 128 ?_
               refine on 37 (some 133) (bm 55 274877906943) (fun K hK => ?_)
               refine gs Try.func23 #[.agg #[.int .i64 ((rd_T40 t429 x9_3).f0), .int .i64 ((rd_T40 t429 x9_3).f1)]] ?_
               with_reducible refine (impl_BlockSize.calls ((rd_T40 t429 x9_3).f0) ((rd_T40 t429 x9_3).f1) t465 _ A73.out).mono ?_
               rintro e w88 ⟨rfl, hb⟩
               have HS2_ := (hb.cell (World.block_lt_of_cell? _ _ (hHeld.2.2.1))).trans (hHeld.2.2.1)
               have HS3_ := (hb.cell (World.block_lt_of_cell? _ _ (hHeld.2.2.2.1))).trans (hHeld.2.2.2.1)
               have HS4_ := (hb.cell (World.block_lt_of_cell? _ _ (hHeld.2.2.2.2.1))).trans (hHeld.2.2.2.2.1)
               have HS5_ := (hb.cell (World.block_lt_of_cell? _ _ (hHeld.2.2.2.2.2.1))).trans (hHeld.2.2.2.2.2.1)
               have HS6_ := (hb.cell (World.block_lt_of_cell? _ _ (hHeld.2.2.2.2.2.2.1))).trans (hHeld.2.2.2.2.2.2.1)
               have HS7_ := (hb.cell (World.block_lt_of_cell? _ _ (hHeld.2.2.2.2.2.2.2.1))).trans (hHeld.2.2.2.2.2.2.2.1)
               have HS8_ := (hb.cell (World.block_lt_of_cell? _ _ (hHeld.2.2.2.2.2.2.2.2.1))).trans (hHeld.2.2.2.2.2.2.2.2.1)
               have HS9_ := (hb.cell (World.block_lt_of_cell? _ _ (hHeld.2.2.2.2.2.2.2.2.2.1))).trans (hHeld.2.2.2.2.2.2.2.2.2.1)
               have HS10_ := (hb.cell (World.block_lt_of_cell? _ _ (hHeld.2.2.2.2.2.2.2.2.2.2.1))).trans (hHeld.2.2.2.2.2.2.2.2.2.2.1)
               have HS11_ := (hb.cell (World.block_lt_of_cell? _ _ (hHeld.2.2.2.2.2.2.2.2.2.2.2.1))).trans (hHeld.2.2.2.2.2.2.2.2.2.2.2.1)
               have HS12_ := (hb.cell (World.block_lt_of_cell? _ _ (hHeld.2.2.2.2.2.2.2.2.2.2.2.2.1))).trans (hHeld.2.2.2.2.2.2.2.2.2.2.2.2.1)
               have HS13_ := (hb.cell (World.block_lt_of_cell? _ _ (hHeld.2.2.2.2.2.2.2.2.2.2.2.2.2.1))).trans (hHeld.2.2.2.2.2.2.2.2.2.2.2.2.2.1)
               have HS14_ := (hb.cell (World.block_lt_of_cell? _ _ (hHeld.2.2.2.2.2.2.2.2.2.2.2.2.2.2.1))).trans (hHeld.2.2.2.2.2.2.2.2.2.2.2.2.2.2.1)
               have HS15_ := (hb.cell (World.block_lt_of_cell? _ _ (hHeld.2.2.2.2.2.2.2.2.2.2.2.2.2.2.2.1))).trans (hHeld.2.2.2.2.2.2.2.2.2.2.2.2.2.2.2.1)
               have HS16_ := (hb.cell (World.block_lt_of_cell? _ _ (hHeld.2.2.2.2.2.2.2.2.2.2.2.2.2.2.2.2.1))).trans (hHeld.2.2.2.2.2.2.2.2.2.2.2.2.2.2.2.2.1)
               have HS17_ := (hb.cell (World.block_lt_of_cell? _ _ (hHeld.2.2.2.2.2.2.2.2.2.2.2.2.2.2.2.2.2))).trans (hHeld.2.2.2.2.2.2.2.2.2.2.2.2.2.2.2.2.2)
               refine ⟨_, rfl, ?_⟩
               replace HO_4 := Aside0.mk (Kd.R_below (zz12 HO_4) hb)
               replace BK455 := Aside0.mk (blk_below (g := gb455) (o := .cells #[.int .i64 t453, .int .i64 t454] 40 (0, 0)) (zz7 BK455) hb)
               replace HB := Aside0.mk (below_step (zz6 GE455) hb)
               (try clear hb)
               (try clear hb2)
               (try clear hk)
               (try clear hi)
               refine hK.out _ _ ⟨(blk_cell BK455.out 0).trans rfl, (blk_cell BK455.out 1).trans rfl, HS2_, HS3_, HS4_, HS5_, HS6_, HS7_, HS8_, HS9_, HS10_, HS11_, HS12_, HS13_, HS14_, HS15_, HS16_, HS17_⟩ (fun hHeld => ?_)
               clear hK K
               refine nm 133 ?_
               refine pu 38 134 (bm 55 549755813887) ?_
               refine pu 39 135 (bm 55 1099511627775) ?_
               refine pu 40 136 (bm 55 2199023255551) ?_
               refine pu 41 137 (bm 55 4398046511103) ?_
               refine pu 42 138 (bm 55 8796093022207) ?_
               refine pu 43 139 (bm 55 17592186044415) ?_
               refine pu 44 140 (bm 55 35184372088831) ?_
               refine pu 45 141 (bm 55 70368744177663) ?_
               refine pu 47 143 (bm 55 211106232532991) ?_
               refine pu 48 144 (bm 55 492581209243647) ?_
               refine pu 49 145 (bm 55 1055531162664959) ?_
               refine pu 50 146 (bm 55 2181431069507583) ?_
               refine tk 46 142 (bm 55 2251799813685247) ?_
               refine tk 51 147 (bm 55 4503599627370495) ?_
               refine pu 52 148 (bm 55 9007199254740991) ?_
               refine pu 53 149 (bm 55 18014398509481983) ?_
               refine pu 54 150 (bm 55 36028797018963967) ?_
               refine done_ (done_of HT_.out (by kernel_rfl)) ?_
               try go_wp2
               go_ret
               exact ⟨by first | rfl | (simp [errW_none, errW_some] <;> rfl) | (simp only [← hji44]; first | rfl | (simp [errW_none, errW_some] <;> rfl)) | (simp [*, errW_none, errW_some] <;> rfl), zz6 GE455⟩
              ·rw [if_neg c75] at H
               have c75b0 : (((rd_T40 t429 (ji44)).f1) == ((rd_T40 t429 x9_3).f1)) = false := beq_eq_false_iff_ne.mpr c75
               have c75b1 : (((rd_T40 t429 (ji44)).f1) != ((rd_T40 t429 x9_3).f1)) = true := bne_iff_ne.mpr c75
               have H' := Aside0.mk H
               clear H
               obtain ⟨Ao89, co89, eo89⟩ := Kd.R_slice HO_4.out
               subst eo89
               try go_wp2
               replace HO_4 := Aside0.mk (Kd.R_drew HO_4.out)
               replace HB := Aside0.mk (below_drew1 HB.out)
               obtain ⟨⟨ad451, e451, hx451_0, hx451_1⟩, p451, q451⟩ := wi (at_T40 (Kd.R_reads' HO_4.out).2.2 (ji44))
               cases e451
               obtain ⟨⟨ad452, e452, hx452_0, hx452_1⟩, p452, q452⟩ := wi (at_T40 (Kd.R_reads' HO_4.out).2.2 x9_3)
               obtain rfl : ad451 = ad452 := (by injection e452)
               refine start_ (n := 12) (S := fun w' => w'.cell? (ad451.add (((ji44)).toNat * 2)) = some (.int .i64 ((rd_T40 t429 (ji44)).f0)) ∧ w'.cell? ⟨(ad451.add (((ji44)).toNat * 2)).block, (ad451.add (((ji44)).toNat * 2)).off + 1, none⟩ = some (.int .i64 ((rd_T40 t429 (ji44)).f1)) ∧ w'.cell? (ad451.add ((x9_3).toNat * 2)) = some (.int .i64 ((rd_T40 t429 x9_3).f0)) ∧ w'.cell? ⟨(ad451.add ((x9_3).toNat * 2)).block, (ad451.add ((x9_3).toNat * 2)).off + 1, none⟩ = some (.int .i64 ((rd_T40 t429 x9_3).f1))) (ds := []) (bm 12 0) (by kernel_rfl) rfl rfl ⟨hx451_0, hx451_1, hx452_0, hx452_1⟩ (fun hHeld => ?_); refine with_tabW laws_FnSetOf.tab16 laws_FnSetOf.bits16 (fun HT_ HW_ => ?_)
               generalize wr.drew = w90 at HO_4 HB hx451_0 hx451_1 hx452_0 hx452_1 hHeld ⊢
               refine pu 0 86 (bm 12 1) ?_
               refine pu 1 87 (bm 12 3) ?_
               refine pu 2 88 (bm 12 7) ?_
               refine pu 3 89 (bm 12 15) ?_
               refine pu 5 91 (bm 12 47) ?_
               refine pu 6 92 (bm 12 111) ?_
               refine pu 7 93 (bm 12 239) ?_
               refine tk 4 90 (bm 12 255) ?_
               refine tk 8 94 (bm 12 511) ?_
               refine join_ (σ := Nat) 1 (bm 12 2047) (fun s_ => [(95, .agg #[.int .i64 t453, .int .i64 t454]), (10, .pointer (some ⟨s_, 0, none⟩))]) (fun s_ w' => (w'.cell? (ad451.add (((ji44)).toNat * 2)) = some (.int .i64 ((rd_T40 t429 (ji44)).f0)) ∧ w'.cell? ⟨(ad451.add (((ji44)).toNat * 2)).block, (ad451.add (((ji44)).toNat * 2)).off + 1, none⟩ = some (.int .i64 ((rd_T40 t429 (ji44)).f1)) ∧ w'.cell? (ad451.add ((x9_3).toNat * 2)) = some (.int .i64 ((rd_T40 t429 x9_3).f0)) ∧ w'.cell? ⟨(ad451.add ((x9_3).toNat * 2)).block, (ad451.add ((x9_3).toNat * 2)).off + 1, none⟩ = some (.int .i64 ((rd_T40 t429 x9_3).f1))) ∧ (Kd.R k40 40 w' w.heap.size (fun k_ => k_ ≠ s_) (.slice (some ad451) t429.length co89) t429) ∧ (w'.heap[s_]? = some (.cells #[.int .i64 0, .int .i64 0] 40 (0, 0))) ∧ (w.heap.size ≤ s_) ∧ (w.heap.size ≤ s_) ∧ (Below w.heap.size w w')) ?_ ?_
               rotate_left
               ·intro hCont
                refine two_ (i := 9) (j := 10) (Ni := some 95) (Nj := some 10) (bm 12 1023) (bm 12 1535) rfl rfl rfl rfl (two_of HT_.out (by kernel_rfl)) (by decide) (by decide) (fun K hK => ?_) (fun K hK => ?_)
                ·skip
                 refine goes_ Try.func24 (by kernel_rfl) rfl #[.agg #[.int .i64 ((rd_T40 t429 (ji44)).f0), .int .i64 ((rd_T40 t429 (ji44)).f1)], .agg #[.int .i64 ((rd_T40 t429 x9_3).f0), .int .i64 ((rd_T40 t429 x9_3).f1)]] (by rfl) rfl rfl (by (try simp only [List.map_toArray, List.map_cons, List.map_nil]); first | done | (simp only [hji44]; rfl) | rfl | (simp only [List.length_drop, List.length_take]; rfl)) ?_
                 with_reducible refine (impl_BlockOver.calls k3 ((rd_T40 t429 (ji44)).f0) ((rd_T40 t429 (ji44)).f1) ((rd_T40 t429 x9_3).f0) ((rd_T40 t429 x9_3).f1) t453 t454 _ A48.out).mono ?_
                 rintro e w91 ⟨rfl, hb⟩
                 have HS0_ := (hb.cell (World.block_lt_of_cell? _ _ (hHeld.1))).trans (hHeld.1)
                 have HS1_ := (hb.cell (World.block_lt_of_cell? _ _ (hHeld.2.1))).trans (hHeld.2.1)
                 have HS2_ := (hb.cell (World.block_lt_of_cell? _ _ (hHeld.2.2.1))).trans (hHeld.2.2.1)
                 have HS3_ := (hb.cell (World.block_lt_of_cell? _ _ (hHeld.2.2.2))).trans (hHeld.2.2.2)
                 refine ⟨_, rfl, ?_⟩
                 replace HO_4 := Aside0.mk (Kd.R_below (zz12 HO_4) hb)
                 replace HB := Aside0.mk (below_step zz5 hb)
                 (try clear hb)
                 (try clear hb2)
                 (try clear hk)
                 (try clear hi)
                 refine hK.out _ _ ⟨HS0_, HS1_, HS2_, HS3_⟩ (fun hHeld => ?_)
                 clear hK K
                 refine nm 95 ?_
                 refine on 10 (some 10) (bm 12 2047) (fun K hK => ?_)
                 refine bs 10 #[.int .i64 0, .int .i64 0] 40 ?_
                 intro gb455 hg w92 hbox hb
                 have HS0_ := (hb.cell (World.block_lt_of_cell? _ _ (hHeld.1))).trans (hHeld.1)
                 have HS1_ := (hb.cell (World.block_lt_of_cell? _ _ (hHeld.2.1))).trans (hHeld.2.1)
                 have HS2_ := (hb.cell (World.block_lt_of_cell? _ _ (hHeld.2.2.1))).trans (hHeld.2.2.1)
                 have HS3_ := (hb.cell (World.block_lt_of_cell? _ _ (hHeld.2.2.2))).trans (hHeld.2.2.2)
                 replace HO_4 := Aside0.mk (Kd.R_below (Kd.R_elderB (zz12 HO_4) gb455 (Nat.le_of_eq hg.symm)) hb)
                 have BK455 := Aside0.mk hbox
                 have GW455 := Aside0.mk (zz4 : w.heap.size ≤ gb455)
                 have GE455 := Aside0.mk (zz4 : w.heap.size ≤ gb455)
                 replace HB := Aside0.mk (below_step zz5 hb)
                 clear hb hbox hg
                 refine hK.out _ _ ⟨HS0_, HS1_, HS2_, HS3_⟩ (fun hHeld => ?_)
                 clear hK K
                 refine nm 10 ?_
                 exact norm_ zz43 (hCont (gb455) _ ⟨hHeld, (zz20 HO_4), (zz7 BK455), GW455.out, GE455.out, (zz6 GE455)⟩)
                ·skip
                 refine bs 10 #[.int .i64 0, .int .i64 0] 40 ?_
                 intro gb455 hg w91 hbox hb
                 have HS0_ := (hb.cell (World.block_lt_of_cell? _ _ (hHeld.1))).trans (hHeld.1)
                 have HS1_ := (hb.cell (World.block_lt_of_cell? _ _ (hHeld.2.1))).trans (hHeld.2.1)
                 have HS2_ := (hb.cell (World.block_lt_of_cell? _ _ (hHeld.2.2.1))).trans (hHeld.2.2.1)
                 have HS3_ := (hb.cell (World.block_lt_of_cell? _ _ (hHeld.2.2.2))).trans (hHeld.2.2.2)
                 replace HO_4 := Aside0.mk (Kd.R_below (Kd.R_elderB (zz12 HO_4) gb455 (Nat.le_of_eq hg.symm)) hb)
                 have BK455 := Aside0.mk hbox
                 have GW455 := Aside0.mk (zz4 : w.heap.size ≤ gb455)
                 have GE455 := Aside0.mk (zz4 : w.heap.size ≤ gb455)
                 replace HB := Aside0.mk (below_step zz5 hb)
                 clear hb hbox hg
                 refine hK.out _ _ ⟨HS0_, HS1_, HS2_, HS3_⟩ (fun hHeld => ?_)
                 clear hK K
                 refine nm 10 ?_
                 refine on 9 (some 95) (bm 12 2047) (fun K hK => ?_)
                 refine goes_ Try.func24 (by kernel_rfl) rfl #[.agg #[.int .i64 ((rd_T40 t429 (ji44)).f0), .int .i64 ((rd_T40 t429 (ji44)).f1)], .agg #[.int .i64 ((rd_T40 t429 x9_3).f0), .int .i64 ((rd_T40 t429 x9_3).f1)]] (by rfl) rfl rfl (by (try simp only [List.map_toArray, List.map_cons, List.map_nil]); first | done | (simp only [hji44]; rfl) | rfl | (simp only [List.length_drop, List.length_take]; rfl)) ?_
                 with_reducible refine (impl_BlockOver.calls k3 ((rd_T40 t429 (ji44)).f0) ((rd_T40 t429 (ji44)).f1) ((rd_T40 t429 x9_3).f0) ((rd_T40 t429 x9_3).f1) t453 t454 _ A48.out).mono ?_
                 rintro e w92 ⟨rfl, hb⟩
                 have HS0_ := (hb.cell (World.block_lt_of_cell? _ _ (hHeld.1))).trans (hHeld.1)
                 have HS1_ := (hb.cell (World.block_lt_of_cell? _ _ (hHeld.2.1))).trans (hHeld.2.1)
                 have HS2_ := (hb.cell (World.block_lt_of_cell? _ _ (hHeld.2.2.1))).trans (hHeld.2.2.1)
                 have HS3_ := (hb.cell (World.block_lt_of_cell? _ _ (hHeld.2.2.2))).trans (hHeld.2.2.2)
                 refine ⟨_, rfl, ?_⟩
                 replace HO_4 := Aside0.mk (Kd.R_below (zz12 HO_4) hb)
                 replace BK455 := Aside0.mk (blk_below (g := gb455) (o := .cells #[.int .i64 0, .int .i64 0] 40 (0, 0)) (zz7 BK455) hb)
                 replace HB := Aside0.mk (below_step (zz6 GE455) hb)
                 (try clear hb)
                 (try clear hb2)
                 (try clear hk)
                 (try clear hi)
                 refine hK.out _ _ ⟨HS0_, HS1_, HS2_, HS3_⟩ (fun hHeld => ?_)
                 clear hK K
                 refine nm 95 ?_
                 exact norm_ zz43 (hCont (gb455) _ ⟨hHeld, (zz20 HO_4), (zz7 BK455), GW455.out, GE455.out, (zz6 GE455)⟩)
               rintro gb455 w93 ⟨hS_, h0_, h1_, h2_, h3_, h4_⟩
               replace HO_4 : Aside0 (Kd.R k40 40 w93 w.heap.size (fun k_ => k_ ≠ gb455) (.slice (some ad451) t429.length co89) t429) := ⟨h0_⟩
               have BK455 : Aside0 (w93.heap[gb455]? = some (.cells #[.int .i64 0, .int .i64 0] 40 (0, 0))) := ⟨h1_⟩
               have GW455 : Aside0 (w.heap.size ≤ gb455) := ⟨h2_⟩
               have GE455 : Aside0 (w.heap.size ≤ gb455) := ⟨h3_⟩
               replace HB : Aside0 (Below w.heap.size w w93) := ⟨h4_⟩
               clear h0_ h1_ h2_ h3_ h4_
               have hHeld : w93.cell? (ad451.add (((ji44)).toNat * 2)) = some (.int .i64 ((rd_T40 t429 (ji44)).f0)) ∧ w93.cell? ⟨(ad451.add (((ji44)).toNat * 2)).block, (ad451.add (((ji44)).toNat * 2)).off + 1, none⟩ = some (.int .i64 ((rd_T40 t429 (ji44)).f1)) ∧ w93.cell? (ad451.add ((x9_3).toNat * 2)) = some (.int .i64 ((rd_T40 t429 x9_3).f0)) ∧ w93.cell? ⟨(ad451.add ((x9_3).toNat * 2)).block, (ad451.add ((x9_3).toNat * 2)).off + 1, none⟩ = some (.int .i64 ((rd_T40 t429 x9_3).f1)) := hS_
               refine norm_ (a' := ?_) ?_ ?_
               rotate_left
               ·simp only [putAll, Act.put, List.setIfInBounds_toArray, List.set_cons_zero, List.set_cons_succ]
                rfl
               refine on 11 none (bm 12 4095) (fun K hK => ?_)
               have hs94 : w93.cell? ⟨gb455, 0, none⟩ = some (.int .i64 0) := (blk_cell BK455.out 0).trans rfl
               have hfs94 := blk_frozen BK455.out 0
               have hs95 : w93.cell? ⟨gb455, 1, none⟩ = some (.int .i64 0) := (blk_cell BK455.out 1).trans rfl
               have hfs95 := blk_frozen BK455.out 1
               refine skip_ (w1 := ?_) (by rfl) rfl ?_ ?_
               rotate_left
               ·go_simp
                rfl
               refine hK.out _ _ ⟨((cell_far (p := ⟨gb455, _, none⟩) (zz61 HO_4) _).trans (((cell_far (p := ⟨gb455, _, none⟩) (zz61 HO_4) _).trans (hHeld.1)))), ((cell_far (p := ⟨gb455, _, none⟩) (zz61 HO_4) _).trans (((cell_far (p := ⟨gb455, _, none⟩) (zz61 HO_4) _).trans (hHeld.2.1)))), ((cell_far (p := ⟨gb455, _, none⟩) (zz61 HO_4) _).trans (((cell_far (p := ⟨gb455, _, none⟩) (zz61 HO_4) _).trans (hHeld.2.2.1)))), ((cell_far (p := ⟨gb455, _, none⟩) (zz61 HO_4) _).trans (((cell_far (p := ⟨gb455, _, none⟩) (zz61 HO_4) _).trans (hHeld.2.2.2))))⟩ (fun hHeld => ?_)
               clear hK K
               refine done_ (done_of HT_.out (by kernel_rfl)) ?_
               try go_wp2
               have n0_ : Aside0 (Kd.R k40 40 ((w93.setCell ⟨gb455, 0, none⟩ (.int .i64 t453)).setCell ⟨gb455, 1, none⟩ (.int .i64 t454)) w.heap.size (fun k_ => k_ ≠ gb455) (.slice (some ad451) t429.length co89) t429) := ⟨by (with_reducible repeat (first | apply Kd.R_alloc | apply Kd.R_drewN | apply Kd.R_drew)); exact Kd.R_mono (Kd.R_far (p := ⟨gb455, 1, none⟩) (Kd.R_far (p := ⟨gb455, 0, none⟩) (Kd.R_mono HO_4.out (fun k_ hk => (⟨hk, hk⟩ : _ ∧ k_ ≠ gb455))) (fun _ hk => hk.2) (.int .i64 t453)) (fun _ hk => hk.2) (.int .i64 t454)) (fun _ hk => hk.1)⟩
               have n1_ : Aside0 (((w93.setCell ⟨gb455, 0, none⟩ (.int .i64 t453)).setCell ⟨gb455, 1, none⟩ (.int .i64 t454)).heap[gb455]? = some (.cells #[.int .i64 t453, .int .i64 t454] 40 (0, 0))) := ⟨by (with_reducible repeat (first | refine blk_drewN ?_ _ | refine blk_drew ?_ | refine blk_alloc ?_ _)); refine blk_put (cs := #[.int .i64 t453, .int .i64 0]) ?_ 1 _ rfl; (with_reducible repeat (first | refine blk_drewN ?_ _ | refine blk_drew ?_ | refine blk_alloc ?_ _)); refine blk_put (cs := #[.int .i64 0, .int .i64 0]) ?_ 0 _ rfl; (with_reducible repeat (first | refine blk_drewN ?_ _ | refine blk_drew ?_ | refine blk_alloc ?_ _)); exact BK455.out⟩
               have n2_ : Aside0 (Below w.heap.size w ((w93.setCell ⟨gb455, 0, none⟩ (.int .i64 t453)).setCell ⟨gb455, 1, none⟩ (.int .i64 t454))) := ⟨zz6 GE455⟩
               (try clear HO_4)
               (try clear BK455)
               (try clear HB)
               generalize ((w93.setCell ⟨gb455, 0, none⟩ (.int .i64 t453)).setCell ⟨gb455, 1, none⟩ (.int .i64 t454)) = w96 at n0_ n1_ n2_ ⊢
               have HO_4 := n0_
               have BK455 := n1_
               have HB := n2_
               clear n0_ n1_ n2_
               replace HO_4 := Aside0.mk (Kd.R_drew HO_4.out)
               replace BK455 := Aside0.mk (blk_drew BK455.out)
               replace HB := Aside0.mk (below_drew1 HB.out)
               obtain ⟨⟨ad456, e456, hx456_0, hx456_1⟩, p456, q456⟩ := wi (at_T40 (Kd.R_reads' HO_4.out).2.2 (ji44))
               obtain rfl : ad451 = ad456 := (by injection e456)
               obtain ⟨⟨ad457, e457, hx457_0, hx457_1⟩, p457, q457⟩ := wi (at_T40 (Kd.R_reads' HO_4.out).2.2 x9_3)
               obtain rfl : ad451 = ad457 := (by injection e457)
               obtain ⟨⟨ad458, e458, hx458_0, hx458_1⟩, p458, q458⟩ := wi (at_T40 (Kd.R_reads' HO_4.out).2.2 (ji44))
               obtain rfl : ad451 = ad458 := (by injection e458)
               obtain ⟨⟨ad459, e459, hx459_0, hx459_1⟩, p459, q459⟩ := wi (at_T40 (Kd.R_reads' HO_4.out).2.2 x9_3)
               obtain rfl : ad451 = ad459 := (by injection e459)
               obtain ⟨⟨ad462, e462, hx462_0, hx462_1⟩, p462, q462⟩ := wi (at_T40 (Kd.R_reads' HO_4.out).2.2 (ji44))
               obtain rfl : ad451 = ad462 := (by injection e462)
               obtain ⟨⟨ad464, e464, hx464_0, hx464_1⟩, p464, q464⟩ := wi (at_T40 (Kd.R_reads' HO_4.out).2.2 x9_3)
               obtain rfl : ad451 = ad464 := (by injection e464)
               obtain ⟨⟨ad466, e466, hx466_0, hx466_1⟩, p466, q466⟩ := wi (at_T40 (Kd.R_reads' HO_4.out).2.2 (ji44))
               obtain rfl : ad451 = ad466 := (by injection e466)
               obtain ⟨⟨ad467, e467, hx467_0, hx467_1⟩, p467, q467⟩ := wi (at_T40 (Kd.R_reads' HO_4.out).2.2 x9_3)
               obtain rfl : ad451 = ad467 := (by injection e467)
               refine start_ (n := 55) (S := fun w' => w'.cell? ⟨gb455, 0, none⟩ = some (.int .i64 t453) ∧ w'.cell? ⟨gb455, 1, none⟩ = some (.int .i64 t454) ∧ w'.cell? (ad451.add (((ji44)).toNat * 2)) = some (.int .i64 ((rd_T40 t429 (ji44)).f0)) ∧ w'.cell? ⟨(ad451.add (((ji44)).toNat * 2)).block, (ad451.add (((ji44)).toNat * 2)).off + 1, none⟩ = some (.int .i64 ((rd_T40 t429 (ji44)).f1)) ∧ w'.cell? (ad451.add ((x9_3).toNat * 2)) = some (.int .i64 ((rd_T40 t429 x9_3).f0)) ∧ w'.cell? ⟨(ad451.add ((x9_3).toNat * 2)).block, (ad451.add ((x9_3).toNat * 2)).off + 1, none⟩ = some (.int .i64 ((rd_T40 t429 x9_3).f1)) ∧ w'.cell? (ad451.add (((ji44)).toNat * 2)) = some (.int .i64 ((rd_T40 t429 (ji44)).f0)) ∧ w'.cell? ⟨(ad451.add (((ji44)).toNat * 2)).block, (ad451.add (((ji44)).toNat * 2)).off + 1, none⟩ = some (.int .i64 ((rd_T40 t429 (ji44)).f1)) ∧ w'.cell? (ad451.add ((x9_3).toNat * 2)) = some (.int .i64 ((rd_T40 t429 x9_3).f0)) ∧ w'.cell? ⟨(ad451.add ((x9_3).toNat * 2)).block, (ad451.add ((x9_3).toNat * 2)).off + 1, none⟩ = some (.int .i64 ((rd_T40 t429 x9_3).f1)) ∧ w'.cell? (ad451.add (((ji44)).toNat * 2)) = some (.int .i64 ((rd_T40 t429 (ji44)).f0)) ∧ w'.cell? ⟨(ad451.add (((ji44)).toNat * 2)).block, (ad451.add (((ji44)).toNat * 2)).off + 1, none⟩ = some (.int .i64 ((rd_T40 t429 (ji44)).f1)) ∧ w'.cell? (ad451.add ((x9_3).toNat * 2)) = some (.int .i64 ((rd_T40 t429 x9_3).f0)) ∧ w'.cell? ⟨(ad451.add ((x9_3).toNat * 2)).block, (ad451.add ((x9_3).toNat * 2)).off + 1, none⟩ = some (.int .i64 ((rd_T40 t429 x9_3).f1)) ∧ w'.cell? (ad451.add (((ji44)).toNat * 2)) = some (.int .i64 ((rd_T40 t429 (ji44)).f0)) ∧ w'.cell? ⟨(ad451.add (((ji44)).toNat * 2)).block, (ad451.add (((ji44)).toNat * 2)).off + 1, none⟩ = some (.int .i64 ((rd_T40 t429 (ji44)).f1)) ∧ w'.cell? (ad451.add ((x9_3).toNat * 2)) = some (.int .i64 ((rd_T40 t429 x9_3).f0)) ∧ w'.cell? ⟨(ad451.add ((x9_3).toNat * 2)).block, (ad451.add ((x9_3).toNat * 2)).off + 1, none⟩ = some (.int .i64 ((rd_T40 t429 x9_3).f1))) (ds := []) (bm 55 0) (by kernel_rfl) rfl rfl ⟨(blk_cell BK455.out 0).trans rfl, (blk_cell BK455.out 1).trans rfl, hx456_0, hx456_1, hx457_0, hx457_1, hx458_0, hx458_1, hx459_0, hx459_1, hx462_0, hx462_1, hx464_0, hx464_1, hx466_0, hx466_1, hx467_0, hx467_1⟩ (fun hHeld => ?_); refine with_tabW laws_FnSetOf.tab17 laws_FnSetOf.bits17 (fun HT_ HW_ => ?_)
               generalize w96.drew = w97 at HO_4 BK455 HB hx456_0 hx456_1 hx457_0 hx457_1 hx458_0 hx458_1 hx459_0 hx459_1 hx462_0 hx462_1 hx464_0 hx464_1 hx466_0 hx466_1 hx467_0 hx467_1 hHeld ⊢
               refine pu 0 96 (bm 55 1) ?_
               refine pu 1 97 (bm 55 3) ?_
               refine pu 2 98 (bm 55 7) ?_
               refine pu 3 99 (bm 55 15) ?_
               refine pu 4 100 (bm 55 31) ?_
               refine pu 6 102 (bm 55 95) ?_
               refine pu 7 103 (bm 55 223) ?_
               refine pu 8 104 (bm 55 479) ?_
               refine pu 9 105 (bm 55 991) ?_
               refine tk 5 101 (bm 55 1023) ?_
               refine tk 10 106 (bm 55 2047) ?_
               refine pu 11 107 (bm 55 4095) ?_
               refine pu 12 108 (bm 55 8191) ?_
               refine pu 13 109 (bm 55 16383) ?_
               refine pu 14 110 (bm 55 32767) ?_
               refine pu 15 111 (bm 55 65535) ?_
               refine pu 16 112 (bm 55 131071) ?_
               refine pu 18 114 (bm 55 393215) ?_
               refine pu 19 115 (bm 55 917503) ?_
               refine pu 20 116 (bm 55 1966079) ?_
               refine tk 17 113 (bm 55 2097151) ?_
               refine tk 21 117 (bm 55 4194303) ?_
               refine on 22 (some 118) (bm 55 8388607) (fun K hK => ?_)
               refine goes_ Try.func25 (by kernel_rfl) rfl #[.agg #[.int .i64 ((rd_T40 t429 (ji44)).f0), .int .i64 ((rd_T40 t429 (ji44)).f1)], .agg #[.int .i64 ((rd_T40 t429 x9_3).f0), .int .i64 ((rd_T40 t429 x9_3).f1)]] (by rfl) rfl rfl (by (try simp only [List.map_toArray, List.map_cons, List.map_nil]); first | done | (simp only [hji44]; rfl) | rfl | (simp only [List.length_drop, List.length_take]; rfl)) ?_
               with_reducible refine (impl_BlockMeets.calls ((rd_T40 t429 (ji44)).f0) ((rd_T40 t429 (ji44)).f1) ((rd_T40 t429 x9_3).f0) ((rd_T40 t429 x9_3).f1) false _ A59.out).mono ?_
               rintro e w98 ⟨rfl, hb⟩
               have HS2_ := (hb.cell (World.block_lt_of_cell? _ _ (hHeld.2.2.1))).trans (hHeld.2.2.1)
               have HS3_ := (hb.cell (World.block_lt_of_cell? _ _ (hHeld.2.2.2.1))).trans (hHeld.2.2.2.1)
               have HS4_ := (hb.cell (World.block_lt_of_cell? _ _ (hHeld.2.2.2.2.1))).trans (hHeld.2.2.2.2.1)
               have HS5_ := (hb.cell (World.block_lt_of_cell? _ _ (hHeld.2.2.2.2.2.1))).trans (hHeld.2.2.2.2.2.1)
               have HS6_ := (hb.cell (World.block_lt_of_cell? _ _ (hHeld.2.2.2.2.2.2.1))).trans (hHeld.2.2.2.2.2.2.1)
               have HS7_ := (hb.cell (World.block_lt_of_cell? _ _ (hHeld.2.2.2.2.2.2.2.1))).trans (hHeld.2.2.2.2.2.2.2.1)
               have HS8_ := (hb.cell (World.block_lt_of_cell? _ _ (hHeld.2.2.2.2.2.2.2.2.1))).trans (hHeld.2.2.2.2.2.2.2.2.1)
               have HS9_ := (hb.cell (World.block_lt_of_cell? _ _ (hHeld.2.2.2.2.2.2.2.2.2.1))).trans (hHeld.2.2.2.2.2.2.2.2.2.1)
               have HS10_ := (hb.cell (World.block_lt_of_cell? _ _ (hHeld.2.2.2.2.2.2.2.2.2.2.1))).trans (hHeld.2.2.2.2.2.2.2.2.2.2.1)
               have HS11_ := (hb.cell (World.block_lt_of_cell? _ _ (hHeld.2.2.2.2.2.2.2.2.2.2.2.1))).trans (hHeld.2.2.2.2.2.2.2.2.2.2.2.1)
               have HS12_ := (hb.cell (World.block_lt_of_cell? _ _ (hHeld.2.2.2.2.2.2.2.2.2.2.2.2.1))).trans (hHeld.2.2.2.2.2.2.2.2.2.2.2.2.1)
               have HS13_ := (hb.cell (World.block_lt_of_cell? _ _ (hHeld.2.2.2.2.2.2.2.2.2.2.2.2.2.1))).trans (hHeld.2.2.2.2.2.2.2.2.2.2.2.2.2.1)
               have HS14_ := (hb.cell (World.block_lt_of_cell? _ _ (hHeld.2.2.2.2.2.2.2.2.2.2.2.2.2.2.1))).trans (hHeld.2.2.2.2.2.2.2.2.2.2.2.2.2.2.1)
               have HS15_ := (hb.cell (World.block_lt_of_cell? _ _ (hHeld.2.2.2.2.2.2.2.2.2.2.2.2.2.2.2.1))).trans (hHeld.2.2.2.2.2.2.2.2.2.2.2.2.2.2.2.1)
               have HS16_ := (hb.cell (World.block_lt_of_cell? _ _ (hHeld.2.2.2.2.2.2.2.2.2.2.2.2.2.2.2.2.1))).trans (hHeld.2.2.2.2.2.2.2.2.2.2.2.2.2.2.2.2.1)
               have HS17_ := (hb.cell (World.block_lt_of_cell? _ _ (hHeld.2.2.2.2.2.2.2.2.2.2.2.2.2.2.2.2.2))).trans (hHeld.2.2.2.2.2.2.2.2.2.2.2.2.2.2.2.2.2)
               refine ⟨_, rfl, ?_⟩
               replace HO_4 := Aside0.mk (Kd.R_below (zz12 HO_4) hb)
               replace BK455 := Aside0.mk (blk_below (g := gb455) (o := .cells #[.int .i64 t453, .int .i64 t454] 40 (0, 0)) (zz7 BK455) hb)
               replace HB := Aside0.mk (below_step (zz6 GE455) hb)
               (try clear hb)
               (try clear hb2)
               (try clear hk)
               (try clear hi)
               refine hK.out _ _ ⟨(blk_cell BK455.out 0).trans rfl, (blk_cell BK455.out 1).trans rfl, HS2_, HS3_, HS4_, HS5_, HS6_, HS7_, HS8_, HS9_, HS10_, HS11_, HS12_, HS13_, HS14_, HS15_, HS16_, HS17_⟩ (fun hHeld => ?_)
               clear hK K
               refine nm 118 ?_
               refine pu 23 119 (bm 55 16777215) ?_
               refine pu 24 120 (bm 55 33554431) ?_
               refine pu 27 123 (bm 55 167772159) ?_
               refine pu 28 124 (bm 55 436207615) ?_
               refine pu 29 125 (bm 55 973078527) ?_
               refine pu 30 126 (bm 55 2046820351) ?_
               refine pu 33 129 (bm 55 10636754943) ?_
               refine pu 34 130 (bm 55 27816624127) ?_
               refine pu 35 131 (bm 55 62176362495) ?_
               refine tk 25 121 (bm 55 62209916927) ?_
               refine tk 31 127 (bm 55 64357400575) ?_
               refine tk 36 132 (bm 55 133076877311) ?_
               refine on 26 (some 122) (bm 55 133143986175) (fun K hK => ?_)
               refine gs Try.func23 #[.agg #[.int .i64 t453, .int .i64 t454]] ?_
               with_reducible refine (impl_BlockSize.calls t453 t454 t461 _ A71.out).mono ?_
               rintro e w99 ⟨rfl, hb⟩
               have HS2_ := (hb.cell (World.block_lt_of_cell? _ _ (hHeld.2.2.1))).trans (hHeld.2.2.1)
               have HS3_ := (hb.cell (World.block_lt_of_cell? _ _ (hHeld.2.2.2.1))).trans (hHeld.2.2.2.1)
               have HS4_ := (hb.cell (World.block_lt_of_cell? _ _ (hHeld.2.2.2.2.1))).trans (hHeld.2.2.2.2.1)
               have HS5_ := (hb.cell (World.block_lt_of_cell? _ _ (hHeld.2.2.2.2.2.1))).trans (hHeld.2.2.2.2.2.1)
               have HS6_ := (hb.cell (World.block_lt_of_cell? _ _ (hHeld.2.2.2.2.2.2.1))).trans (hHeld.2.2.2.2.2.2.1)
               have HS7_ := (hb.cell (World.block_lt_of_cell? _ _ (hHeld.2.2.2.2.2.2.2.1))).trans (hHeld.2.2.2.2.2.2.2.1)
               have HS8_ := (hb.cell (World.block_lt_of_cell? _ _ (hHeld.2.2.2.2.2.2.2.2.1))).trans (hHeld.2.2.2.2.2.2.2.2.1)
               have HS9_ := (hb.cell (World.block_lt_of_cell? _ _ (hHeld.2.2.2.2.2.2.2.2.2.1))).trans (hHeld.2.2.2.2.2.2.2.2.2.1)
               have HS10_ := (hb.cell (World.block_lt_of_cell? _ _ (hHeld.2.2.2.2.2.2.2.2.2.2.1))).trans (hHeld.2.2.2.2.2.2.2.2.2.2.1)
               have HS11_ := (hb.cell (World.block_lt_of_cell? _ _ (hHeld.2.2.2.2.2.2.2.2.2.2.2.1))).trans (hHeld.2.2.2.2.2.2.2.2.2.2.2.1)
               have HS12_ := (hb.cell (World.block_lt_of_cell? _ _ (hHeld.2.2.2.2.2.2.2.2.2.2.2.2.1))).trans (hHeld.2.2.2.2.2.2.2.2.2.2.2.2.1)
               have HS13_ := (hb.cell (World.block_lt_of_cell? _ _ (hHeld.2.2.2.2.2.2.2.2.2.2.2.2.2.1))).trans (hHeld.2.2.2.2.2.2.2.2.2.2.2.2.2.1)
               have HS14_ := (hb.cell (World.block_lt_of_cell? _ _ (hHeld.2.2.2.2.2.2.2.2.2.2.2.2.2.2.1))).trans (hHeld.2.2.2.2.2.2.2.2.2.2.2.2.2.2.1)
               have HS15_ := (hb.cell (World.block_lt_of_cell? _ _ (hHeld.2.2.2.2.2.2.2.2.2.2.2.2.2.2.2.1))).trans (hHeld.2.2.2.2.2.2.2.2.2.2.2.2.2.2.2.1)
               have HS16_ := (hb.cell (World.block_lt_of_cell? _ _ (hHeld.2.2.2.2.2.2.2.2.2.2.2.2.2.2.2.2.1))).trans (hHeld.2.2.2.2.2.2.2.2.2.2.2.2.2.2.2.2.1)
               have HS17_ := (hb.cell (World.block_lt_of_cell? _ _ (hHeld.2.2.2.2.2.2.2.2.2.2.2.2.2.2.2.2.2))).trans (hHeld.2.2.2.2.2.2.2.2.2.2.2.2.2.2.2.2.2)
               refine ⟨_, rfl, ?_⟩
               replace HO_4 := Aside0.mk (Kd.R_below (zz12 HO_4) hb)
               replace BK455 := Aside0.mk (blk_below (g := gb455) (o := .cells #[.int .i64 t453, .int .i64 t454] 40 (0, 0)) (zz7 BK455) hb)
               replace HB := Aside0.mk (below_step (zz6 GE455) hb)
               (try clear hb)
               (try clear hb2)
               (try clear hk)
               (try clear hi)
               refine hK.out _ _ ⟨(blk_cell BK455.out 0).trans rfl, (blk_cell BK455.out 1).trans rfl, HS2_, HS3_, HS4_, HS5_, HS6_, HS7_, HS8_, HS9_, HS10_, HS11_, HS12_, HS13_, HS14_, HS15_, HS16_, HS17_⟩ (fun hHeld => ?_)
               clear hK K
               refine nm 122 ?_
               refine on 32 (some 128) (bm 55 137438953471) (fun K hK => ?_)
               refine goes_ Try.func23 (by kernel_rfl) rfl #[.agg #[.int .i64 ((rd_T40 t429 (ji44)).f0), .int .i64 ((rd_T40 t429 (ji44)).f1)]] (by rfl) rfl rfl (by (try simp only [List.map_toArray, List.map_cons, List.map_nil]); first | done | (simp only [hji44]; rfl) | rfl | (simp only [List.length_drop, List.length_take]; rfl)) ?_
               with_reducible refine (impl_BlockSize.calls ((rd_T40 t429 (ji44)).f0) ((rd_T40 t429 (ji44)).f1) t463 _ A72.out).mono ?_
               rintro e w100 ⟨rfl, hb⟩
               have HS2_ := (hb.cell (World.block_lt_of_cell? _ _ (hHeld.2.2.1))).trans (hHeld.2.2.1)
               have HS3_ := (hb.cell (World.block_lt_of_cell? _ _ (hHeld.2.2.2.1))).trans (hHeld.2.2.2.1)
               have HS4_ := (hb.cell (World.block_lt_of_cell? _ _ (hHeld.2.2.2.2.1))).trans (hHeld.2.2.2.2.1)
               have HS5_ := (hb.cell (World.block_lt_of_cell? _ _ (hHeld.2.2.2.2.2.1))).trans (hHeld.2.2.2.2.2.1)
               have HS6_ := (hb.cell (World.block_lt_of_cell? _ _ (hHeld.2.2.2.2.2.2.1))).trans (hHeld.2.2.2.2.2.2.1)
               have HS7_ := (hb.cell (World.block_lt_of_cell? _ _ (hHeld.2.2.2.2.2.2.2.1))).trans (hHeld.2.2.2.2.2.2.2.1)
               have HS8_ := (hb.cell (World.block_lt_of_cell? _ _ (hHeld.2.2.2.2.2.2.2.2.1))).trans (hHeld.2.2.2.2.2.2.2.2.1)
               have HS9_ := (hb.cell (World.block_lt_of_cell? _ _ (hHeld.2.2.2.2.2.2.2.2.2.1))).trans (hHeld.2.2.2.2.2.2.2.2.2.1)
               have HS10_ := (hb.cell (World.block_lt_of_cell? _ _ (hHeld.2.2.2.2.2.2.2.2.2.2.1))).trans (hHeld.2.2.2.2.2.2.2.2.2.2.1)
               have HS11_ := (hb.cell (World.block_lt_of_cell? _ _ (hHeld.2.2.2.2.2.2.2.2.2.2.2.1))).trans (hHeld.2.2.2.2.2.2.2.2.2.2.2.1)
               have HS12_ := (hb.cell (World.block_lt_of_cell? _ _ (hHeld.2.2.2.2.2.2.2.2.2.2.2.2.1))).trans (hHeld.2.2.2.2.2.2.2.2.2.2.2.2.1)
               have HS13_ := (hb.cell (World.block_lt_of_cell? _ _ (hHeld.2.2.2.2.2.2.2.2.2.2.2.2.2.1))).trans (hHeld.2.2.2.2.2.2.2.2.2.2.2.2.2.1)
               have HS14_ := (hb.cell (World.block_lt_of_cell? _ _ (hHeld.2.2.2.2.2.2.2.2.2.2.2.2.2.2.1))).trans (hHeld.2.2.2.2.2.2.2.2.2.2.2.2.2.2.1)
               have HS15_ := (hb.cell (World.block_lt_of_cell? _ _ (hHeld.2.2.2.2.2.2.2.2.2.2.2.2.2.2.2.1))).trans (hHeld.2.2.2.2.2.2.2.2.2.2.2.2.2.2.2.1)
               have HS16_ := (hb.cell (World.block_lt_of_cell? _ _ (hHeld.2.2.2.2.2.2.2.2.2.2.2.2.2.2.2.2.1))).trans (hHeld.2.2.2.2.2.2.2.2.2.2.2.2.2.2.2.2.1)
               have HS17_ := (hb.cell (World.block_lt_of_cell? _ _ (hHeld.2.2.2.2.2.2.2.2.2.2.2.2.2.2.2.2.2))).trans (hHeld.2.2.2.2.2.2.2.2.2.2.2.2.2.2.2.2.2)
               refine ⟨_, rfl, ?_⟩
               replace HO_4 := Aside0.mk (Kd.R_below (zz12 HO_4) hb)
               replace BK455 := Aside0.mk (blk_below (g := gb455) (o := .cells #[.int .i64 t453, .int .i64 t454] 40 (0, 0)) (zz7 BK455) hb)
               replace HB := Aside0.mk (below_step (zz6 GE455) hb)
               (try clear hb)
               (try clear hb2)
               (try clear hk)
               (try clear hi)
               refine hK.out _ _ ⟨(blk_cell BK455.out 0).trans rfl, (blk_cell BK455.out 1).trans rfl, HS2_, HS3_, HS4_, HS5_, HS6_, HS7_, HS8_, HS9_, HS10_, HS11_, HS12_, HS13_, HS14_, HS15_, HS16_, HS17_⟩ (fun hHeld => ?_)
               clear hK K
               refine nm 128 ?_
               refine on 37 (some 133) (bm 55 274877906943) (fun K hK => ?_)
               refine gs Try.func23 #[.agg #[.int .i64 ((rd_T40 t429 x9_3).f0), .int .i64 ((rd_T40 t429 x9_3).f1)]] ?_
               with_reducible refine (impl_BlockSize.calls ((rd_T40 t429 x9_3).f0) ((rd_T40 t429 x9_3).f1) t465 _ A73.out).mono ?_
               rintro e w101 ⟨rfl, hb⟩
               have HS2_ := (hb.cell (World.block_lt_of_cell? _ _ (hHeld.2.2.1))).trans (hHeld.2.2.1)
               have HS3_ := (hb.cell (World.block_lt_of_cell? _ _ (hHeld.2.2.2.1))).trans (hHeld.2.2.2.1)
               have HS4_ := (hb.cell (World.block_lt_of_cell? _ _ (hHeld.2.2.2.2.1))).trans (hHeld.2.2.2.2.1)
               have HS5_ := (hb.cell (World.block_lt_of_cell? _ _ (hHeld.2.2.2.2.2.1))).trans (hHeld.2.2.2.2.2.1)
               have HS6_ := (hb.cell (World.block_lt_of_cell? _ _ (hHeld.2.2.2.2.2.2.1))).trans (hHeld.2.2.2.2.2.2.1)
               have HS7_ := (hb.cell (World.block_lt_of_cell? _ _ (hHeld.2.2.2.2.2.2.2.1))).trans (hHeld.2.2.2.2.2.2.2.1)
               have HS8_ := (hb.cell (World.block_lt_of_cell? _ _ (hHeld.2.2.2.2.2.2.2.2.1))).trans (hHeld.2.2.2.2.2.2.2.2.1)
               have HS9_ := (hb.cell (World.block_lt_of_cell? _ _ (hHeld.2.2.2.2.2.2.2.2.2.1))).trans (hHeld.2.2.2.2.2.2.2.2.2.1)
               have HS10_ := (hb.cell (World.block_lt_of_cell? _ _ (hHeld.2.2.2.2.2.2.2.2.2.2.1))).trans (hHeld.2.2.2.2.2.2.2.2.2.2.1)
               have HS11_ := (hb.cell (World.block_lt_of_cell? _ _ (hHeld.2.2.2.2.2.2.2.2.2.2.2.1))).trans (hHeld.2.2.2.2.2.2.2.2.2.2.2.1)
               have HS12_ := (hb.cell (World.block_lt_of_cell? _ _ (hHeld.2.2.2.2.2.2.2.2.2.2.2.2.1))).trans (hHeld.2.2.2.2.2.2.2.2.2.2.2.2.1)
               have HS13_ := (hb.cell (World.block_lt_of_cell? _ _ (hHeld.2.2.2.2.2.2.2.2.2.2.2.2.2.1))).trans (hHeld.2.2.2.2.2.2.2.2.2.2.2.2.2.1)
               have HS14_ := (hb.cell (World.block_lt_of_cell? _ _ (hHeld.2.2.2.2.2.2.2.2.2.2.2.2.2.2.1))).trans (hHeld.2.2.2.2.2.2.2.2.2.2.2.2.2.2.1)
               have HS15_ := (hb.cell (World.block_lt_of_cell? _ _ (hHeld.2.2.2.2.2.2.2.2.2.2.2.2.2.2.2.1))).trans (hHeld.2.2.2.2.2.2.2.2.2.2.2.2.2.2.2.1)
               have HS16_ := (hb.cell (World.block_lt_of_cell? _ _ (hHeld.2.2.2.2.2.2.2.2.2.2.2.2.2.2.2.2.1))).trans (hHeld.2.2.2.2.2.2.2.2.2.2.2.2.2.2.2.2.1)
               have HS17_ := (hb.cell (World.block_lt_of_cell? _ _ (hHeld.2.2.2.2.2.2.2.2.2.2.2.2.2.2.2.2.2))).trans (hHeld.2.2.2.2.2.2.2.2.2.2.2.2.2.2.2.2.2)
               refine ⟨_, rfl, ?_⟩
               replace HO_4 := Aside0.mk (Kd.R_below (zz12 HO_4) hb)
               replace BK455 := Aside0.mk (blk_below (g := gb455) (o := .cells #[.int .i64 t453, .int .i64 t454] 40 (0, 0)) (zz7 BK455) hb)
               replace HB := Aside0.mk (below_step (zz6 GE455) hb)
               (try clear hb)
               (try clear hb2)
               (try clear hk)
               (try clear hi)
               refine hK.out _ _ ⟨(blk_cell BK455.out 0).trans rfl, (blk_cell BK455.out 1).trans rfl, HS2_, HS3_, HS4_, HS5_, HS6_, HS7_, HS8_, HS9_, HS10_, HS11_, HS12_, HS13_, HS14_, HS15_, HS16_, HS17_⟩ (fun hHeld => ?_)
               clear hK K
               refine nm 133 ?_
               refine pu 38 134 (bm 55 549755813887) ?_
               refine pu 39 135 (bm 55 1099511627775) ?_
               refine pu 40 136 (bm 55 2199023255551) ?_
               refine pu 41 137 (bm 55 4398046511103) ?_
               refine pu 42 138 (bm 55 8796093022207) ?_
               refine pu 43 139 (bm 55 17592186044415) ?_
               refine pu 44 140 (bm 55 35184372088831) ?_
               refine pu 45 141 (bm 55 70368744177663) ?_
               refine pu 47 143 (bm 55 211106232532991) ?_
               refine pu 48 144 (bm 55 492581209243647) ?_
               refine pu 49 145 (bm 55 1055531162664959) ?_
               refine pu 50 146 (bm 55 2181431069507583) ?_
               refine tk 46 142 (bm 55 2251799813685247) ?_
               refine tk 51 147 (bm 55 4503599627370495) ?_
               refine pu 52 148 (bm 55 9007199254740991) ?_
               refine pu 53 149 (bm 55 18014398509481983) ?_
               refine pu 54 150 (bm 55 36028797018963967) ?_
               refine done_ (done_of HT_.out (by kernel_rfl)) ?_
               try go_wp2
               go_roundg k3
               case measure => have := HJ5.out; have := HK2.out; have := HK3.out; omega
               case rel => exact ⟨(wrap64 (x9_3 + 1)), zz1, H', ⟨by have := HJ5.out; have := HK2.out; have := HK3.out; omega⟩, ⟨zz18 HO_4⟩, ⟨zz6 GE455⟩⟩
             ·rw [if_neg c74] at H
              have c74b0 : (t461 == (wrap64 (t463 + t465))) = false := beq_eq_false_iff_ne.mpr c74
              have c74b1 : (t461 != (wrap64 (t463 + t465))) = true := bne_iff_ne.mpr c74
              have H' := Aside0.mk H
              clear H
              obtain ⟨Ao102, co102, eo102⟩ := Kd.R_slice HO_4.out
              subst eo102
              try go_wp2
              replace HO_4 := Aside0.mk (Kd.R_drew HO_4.out)
              replace HB := Aside0.mk (below_drew1 HB.out)
              obtain ⟨⟨ad451, e451, hx451_0, hx451_1⟩, p451, q451⟩ := wi (at_T40 (Kd.R_reads' HO_4.out).2.2 (ji44))
              cases e451
              obtain ⟨⟨ad452, e452, hx452_0, hx452_1⟩, p452, q452⟩ := wi (at_T40 (Kd.R_reads' HO_4.out).2.2 x9_3)
              obtain rfl : ad451 = ad452 := (by injection e452)
              refine start_ (n := 12) (S := fun w' => w'.cell? (ad451.add (((ji44)).toNat * 2)) = some (.int .i64 ((rd_T40 t429 (ji44)).f0)) ∧ w'.cell? ⟨(ad451.add (((ji44)).toNat * 2)).block, (ad451.add (((ji44)).toNat * 2)).off + 1, none⟩ = some (.int .i64 ((rd_T40 t429 (ji44)).f1)) ∧ w'.cell? (ad451.add ((x9_3).toNat * 2)) = some (.int .i64 ((rd_T40 t429 x9_3).f0)) ∧ w'.cell? ⟨(ad451.add ((x9_3).toNat * 2)).block, (ad451.add ((x9_3).toNat * 2)).off + 1, none⟩ = some (.int .i64 ((rd_T40 t429 x9_3).f1))) (ds := []) (bm 12 0) (by kernel_rfl) rfl rfl ⟨hx451_0, hx451_1, hx452_0, hx452_1⟩ (fun hHeld => ?_); refine with_tabW laws_FnSetOf.tab16 laws_FnSetOf.bits16 (fun HT_ HW_ => ?_)
              generalize wr.drew = w103 at HO_4 HB hx451_0 hx451_1 hx452_0 hx452_1 hHeld ⊢
              refine pu 0 86 (bm 12 1) ?_
              refine pu 1 87 (bm 12 3) ?_
              refine pu 2 88 (bm 12 7) ?_
              refine pu 3 89 (bm 12 15) ?_
              refine pu 5 91 (bm 12 47) ?_
              refine pu 6 92 (bm 12 111) ?_
              refine pu 7 93 (bm 12 239) ?_
              refine tk 4 90 (bm 12 255) ?_
              refine tk 8 94 (bm 12 511) ?_
              refine join_ (σ := Nat) 1 (bm 12 2047) (fun s_ => [(95, .agg #[.int .i64 t453, .int .i64 t454]), (10, .pointer (some ⟨s_, 0, none⟩))]) (fun s_ w' => (w'.cell? (ad451.add (((ji44)).toNat * 2)) = some (.int .i64 ((rd_T40 t429 (ji44)).f0)) ∧ w'.cell? ⟨(ad451.add (((ji44)).toNat * 2)).block, (ad451.add (((ji44)).toNat * 2)).off + 1, none⟩ = some (.int .i64 ((rd_T40 t429 (ji44)).f1)) ∧ w'.cell? (ad451.add ((x9_3).toNat * 2)) = some (.int .i64 ((rd_T40 t429 x9_3).f0)) ∧ w'.cell? ⟨(ad451.add ((x9_3).toNat * 2)).block, (ad451.add ((x9_3).toNat * 2)).off + 1, none⟩ = some (.int .i64 ((rd_T40 t429 x9_3).f1))) ∧ (Kd.R k40 40 w' w.heap.size (fun k_ => k_ ≠ s_) (.slice (some ad451) t429.length co102) t429) ∧ (w'.heap[s_]? = some (.cells #[.int .i64 0, .int .i64 0] 40 (0, 0))) ∧ (w.heap.size ≤ s_) ∧ (w.heap.size ≤ s_) ∧ (Below w.heap.size w w')) ?_ ?_
              rotate_left
              ·intro hCont
               refine two_ (i := 9) (j := 10) (Ni := some 95) (Nj := some 10) (bm 12 1023) (bm 12 1535) rfl rfl rfl rfl (two_of HT_.out (by kernel_rfl)) (by decide) (by decide) (fun K hK => ?_) (fun K hK => ?_)
               ·skip
                refine goes_ Try.func24 (by kernel_rfl) rfl #[.agg #[.int .i64 ((rd_T40 t429 (ji44)).f0), .int .i64 ((rd_T40 t429 (ji44)).f1)], .agg #[.int .i64 ((rd_T40 t429 x9_3).f0), .int .i64 ((rd_T40 t429 x9_3).f1)]] (by rfl) rfl rfl (by (try simp only [List.map_toArray, List.map_cons, List.map_nil]); first | done | (simp only [hji44]; rfl) | rfl | (simp only [List.length_drop, List.length_take]; rfl)) ?_
                with_reducible refine (impl_BlockOver.calls k3 ((rd_T40 t429 (ji44)).f0) ((rd_T40 t429 (ji44)).f1) ((rd_T40 t429 x9_3).f0) ((rd_T40 t429 x9_3).f1) t453 t454 _ A48.out).mono ?_
                rintro e w104 ⟨rfl, hb⟩
                have HS0_ := (hb.cell (World.block_lt_of_cell? _ _ (hHeld.1))).trans (hHeld.1)
                have HS1_ := (hb.cell (World.block_lt_of_cell? _ _ (hHeld.2.1))).trans (hHeld.2.1)
                have HS2_ := (hb.cell (World.block_lt_of_cell? _ _ (hHeld.2.2.1))).trans (hHeld.2.2.1)
                have HS3_ := (hb.cell (World.block_lt_of_cell? _ _ (hHeld.2.2.2))).trans (hHeld.2.2.2)
                refine ⟨_, rfl, ?_⟩
                replace HO_4 := Aside0.mk (Kd.R_below (zz12 HO_4) hb)
                replace HB := Aside0.mk (below_step zz5 hb)
                (try clear hb)
                (try clear hb2)
                (try clear hk)
                (try clear hi)
                refine hK.out _ _ ⟨HS0_, HS1_, HS2_, HS3_⟩ (fun hHeld => ?_)
                clear hK K
                refine nm 95 ?_
                refine on 10 (some 10) (bm 12 2047) (fun K hK => ?_)
                refine bs 10 #[.int .i64 0, .int .i64 0] 40 ?_
                intro gb455 hg w105 hbox hb
                have HS0_ := (hb.cell (World.block_lt_of_cell? _ _ (hHeld.1))).trans (hHeld.1)
                have HS1_ := (hb.cell (World.block_lt_of_cell? _ _ (hHeld.2.1))).trans (hHeld.2.1)
                have HS2_ := (hb.cell (World.block_lt_of_cell? _ _ (hHeld.2.2.1))).trans (hHeld.2.2.1)
                have HS3_ := (hb.cell (World.block_lt_of_cell? _ _ (hHeld.2.2.2))).trans (hHeld.2.2.2)
                replace HO_4 := Aside0.mk (Kd.R_below (Kd.R_elderB (zz12 HO_4) gb455 (Nat.le_of_eq hg.symm)) hb)
                have BK455 := Aside0.mk hbox
                have GW455 := Aside0.mk (zz4 : w.heap.size ≤ gb455)
                have GE455 := Aside0.mk (zz4 : w.heap.size ≤ gb455)
                replace HB := Aside0.mk (below_step zz5 hb)
                clear hb hbox hg
                refine hK.out _ _ ⟨HS0_, HS1_, HS2_, HS3_⟩ (fun hHeld => ?_)
                clear hK K
                refine nm 10 ?_
                exact norm_ zz43 (hCont (gb455) _ ⟨hHeld, (zz20 HO_4), (zz7 BK455), GW455.out, GE455.out, (zz6 GE455)⟩)
               ·skip
                refine bs 10 #[.int .i64 0, .int .i64 0] 40 ?_
                intro gb455 hg w104 hbox hb
                have HS0_ := (hb.cell (World.block_lt_of_cell? _ _ (hHeld.1))).trans (hHeld.1)
                have HS1_ := (hb.cell (World.block_lt_of_cell? _ _ (hHeld.2.1))).trans (hHeld.2.1)
                have HS2_ := (hb.cell (World.block_lt_of_cell? _ _ (hHeld.2.2.1))).trans (hHeld.2.2.1)
                have HS3_ := (hb.cell (World.block_lt_of_cell? _ _ (hHeld.2.2.2))).trans (hHeld.2.2.2)
                replace HO_4 := Aside0.mk (Kd.R_below (Kd.R_elderB (zz12 HO_4) gb455 (Nat.le_of_eq hg.symm)) hb)
                have BK455 := Aside0.mk hbox
                have GW455 := Aside0.mk (zz4 : w.heap.size ≤ gb455)
                have GE455 := Aside0.mk (zz4 : w.heap.size ≤ gb455)
                replace HB := Aside0.mk (below_step zz5 hb)
                clear hb hbox hg
                refine hK.out _ _ ⟨HS0_, HS1_, HS2_, HS3_⟩ (fun hHeld => ?_)
                clear hK K
                refine nm 10 ?_
                refine on 9 (some 95) (bm 12 2047) (fun K hK => ?_)
                refine goes_ Try.func24 (by kernel_rfl) rfl #[.agg #[.int .i64 ((rd_T40 t429 (ji44)).f0), .int .i64 ((rd_T40 t429 (ji44)).f1)], .agg #[.int .i64 ((rd_T40 t429 x9_3).f0), .int .i64 ((rd_T40 t429 x9_3).f1)]] (by rfl) rfl rfl (by (try simp only [List.map_toArray, List.map_cons, List.map_nil]); first | done | (simp only [hji44]; rfl) | rfl | (simp only [List.length_drop, List.length_take]; rfl)) ?_
                with_reducible refine (impl_BlockOver.calls k3 ((rd_T40 t429 (ji44)).f0) ((rd_T40 t429 (ji44)).f1) ((rd_T40 t429 x9_3).f0) ((rd_T40 t429 x9_3).f1) t453 t454 _ A48.out).mono ?_
                rintro e w105 ⟨rfl, hb⟩
                have HS0_ := (hb.cell (World.block_lt_of_cell? _ _ (hHeld.1))).trans (hHeld.1)
                have HS1_ := (hb.cell (World.block_lt_of_cell? _ _ (hHeld.2.1))).trans (hHeld.2.1)
                have HS2_ := (hb.cell (World.block_lt_of_cell? _ _ (hHeld.2.2.1))).trans (hHeld.2.2.1)
                have HS3_ := (hb.cell (World.block_lt_of_cell? _ _ (hHeld.2.2.2))).trans (hHeld.2.2.2)
                refine ⟨_, rfl, ?_⟩
                replace HO_4 := Aside0.mk (Kd.R_below (zz12 HO_4) hb)
                replace BK455 := Aside0.mk (blk_below (g := gb455) (o := .cells #[.int .i64 0, .int .i64 0] 40 (0, 0)) (zz7 BK455) hb)
                replace HB := Aside0.mk (below_step (zz6 GE455) hb)
                (try clear hb)
                (try clear hb2)
                (try clear hk)
                (try clear hi)
                refine hK.out _ _ ⟨HS0_, HS1_, HS2_, HS3_⟩ (fun hHeld => ?_)
                clear hK K
                refine nm 95 ?_
                exact norm_ zz43 (hCont (gb455) _ ⟨hHeld, (zz20 HO_4), (zz7 BK455), GW455.out, GE455.out, (zz6 GE455)⟩)
              rintro gb455 w106 ⟨hS_, h0_, h1_, h2_, h3_, h4_⟩
              replace HO_4 : Aside0 (Kd.R k40 40 w106 w.heap.size (fun k_ => k_ ≠ gb455) (.slice (some ad451) t429.length co102) t429) := ⟨h0_⟩
              have BK455 : Aside0 (w106.heap[gb455]? = some (.cells #[.int .i64 0, .int .i64 0] 40 (0, 0))) := ⟨h1_⟩
              have GW455 : Aside0 (w.heap.size ≤ gb455) := ⟨h2_⟩
              have GE455 : Aside0 (w.heap.size ≤ gb455) := ⟨h3_⟩
              replace HB : Aside0 (Below w.heap.size w w106) := ⟨h4_⟩
              clear h0_ h1_ h2_ h3_ h4_
              have hHeld : w106.cell? (ad451.add (((ji44)).toNat * 2)) = some (.int .i64 ((rd_T40 t429 (ji44)).f0)) ∧ w106.cell? ⟨(ad451.add (((ji44)).toNat * 2)).block, (ad451.add (((ji44)).toNat * 2)).off + 1, none⟩ = some (.int .i64 ((rd_T40 t429 (ji44)).f1)) ∧ w106.cell? (ad451.add ((x9_3).toNat * 2)) = some (.int .i64 ((rd_T40 t429 x9_3).f0)) ∧ w106.cell? ⟨(ad451.add ((x9_3).toNat * 2)).block, (ad451.add ((x9_3).toNat * 2)).off + 1, none⟩ = some (.int .i64 ((rd_T40 t429 x9_3).f1)) := hS_
              refine norm_ (a' := ?_) ?_ ?_
              rotate_left
              ·simp only [putAll, Act.put, List.setIfInBounds_toArray, List.set_cons_zero, List.set_cons_succ]
               rfl
              refine on 11 none (bm 12 4095) (fun K hK => ?_)
              have hs107 : w106.cell? ⟨gb455, 0, none⟩ = some (.int .i64 0) := (blk_cell BK455.out 0).trans rfl
              have hfs107 := blk_frozen BK455.out 0
              have hs108 : w106.cell? ⟨gb455, 1, none⟩ = some (.int .i64 0) := (blk_cell BK455.out 1).trans rfl
              have hfs108 := blk_frozen BK455.out 1
              refine skip_ (w1 := ?_) (by rfl) rfl ?_ ?_
              rotate_left
              ·go_simp
               rfl
              refine hK.out _ _ ⟨((cell_far (p := ⟨gb455, _, none⟩) (zz61 HO_4) _).trans (((cell_far (p := ⟨gb455, _, none⟩) (zz61 HO_4) _).trans (hHeld.1)))), ((cell_far (p := ⟨gb455, _, none⟩) (zz61 HO_4) _).trans (((cell_far (p := ⟨gb455, _, none⟩) (zz61 HO_4) _).trans (hHeld.2.1)))), ((cell_far (p := ⟨gb455, _, none⟩) (zz61 HO_4) _).trans (((cell_far (p := ⟨gb455, _, none⟩) (zz61 HO_4) _).trans (hHeld.2.2.1)))), ((cell_far (p := ⟨gb455, _, none⟩) (zz61 HO_4) _).trans (((cell_far (p := ⟨gb455, _, none⟩) (zz61 HO_4) _).trans (hHeld.2.2.2))))⟩ (fun hHeld => ?_)
              clear hK K
              refine done_ (done_of HT_.out (by kernel_rfl)) ?_
              try go_wp2
              have n0_ : Aside0 (Kd.R k40 40 ((w106.setCell ⟨gb455, 0, none⟩ (.int .i64 t453)).setCell ⟨gb455, 1, none⟩ (.int .i64 t454)) w.heap.size (fun k_ => k_ ≠ gb455) (.slice (some ad451) t429.length co102) t429) := ⟨by (with_reducible repeat (first | apply Kd.R_alloc | apply Kd.R_drewN | apply Kd.R_drew)); exact Kd.R_mono (Kd.R_far (p := ⟨gb455, 1, none⟩) (Kd.R_far (p := ⟨gb455, 0, none⟩) (Kd.R_mono HO_4.out (fun k_ hk => (⟨hk, hk⟩ : _ ∧ k_ ≠ gb455))) (fun _ hk => hk.2) (.int .i64 t453)) (fun _ hk => hk.2) (.int .i64 t454)) (fun _ hk => hk.1)⟩
              have n1_ : Aside0 (((w106.setCell ⟨gb455, 0, none⟩ (.int .i64 t453)).setCell ⟨gb455, 1, none⟩ (.int .i64 t454)).heap[gb455]? = some (.cells #[.int .i64 t453, .int .i64 t454] 40 (0, 0))) := ⟨by (with_reducible repeat (first | refine blk_drewN ?_ _ | refine blk_drew ?_ | refine blk_alloc ?_ _)); refine blk_put (cs := #[.int .i64 t453, .int .i64 0]) ?_ 1 _ rfl; (with_reducible repeat (first | refine blk_drewN ?_ _ | refine blk_drew ?_ | refine blk_alloc ?_ _)); refine blk_put (cs := #[.int .i64 0, .int .i64 0]) ?_ 0 _ rfl; (with_reducible repeat (first | refine blk_drewN ?_ _ | refine blk_drew ?_ | refine blk_alloc ?_ _)); exact BK455.out⟩
              have n2_ : Aside0 (Below w.heap.size w ((w106.setCell ⟨gb455, 0, none⟩ (.int .i64 t453)).setCell ⟨gb455, 1, none⟩ (.int .i64 t454))) := ⟨zz6 GE455⟩
              (try clear HO_4)
              (try clear BK455)
              (try clear HB)
              generalize ((w106.setCell ⟨gb455, 0, none⟩ (.int .i64 t453)).setCell ⟨gb455, 1, none⟩ (.int .i64 t454)) = w109 at n0_ n1_ n2_ ⊢
              have HO_4 := n0_
              have BK455 := n1_
              have HB := n2_
              clear n0_ n1_ n2_
              replace HO_4 := Aside0.mk (Kd.R_drew HO_4.out)
              replace BK455 := Aside0.mk (blk_drew BK455.out)
              replace HB := Aside0.mk (below_drew1 HB.out)
              obtain ⟨⟨ad456, e456, hx456_0, hx456_1⟩, p456, q456⟩ := wi (at_T40 (Kd.R_reads' HO_4.out).2.2 (ji44))
              obtain rfl : ad451 = ad456 := (by injection e456)
              obtain ⟨⟨ad457, e457, hx457_0, hx457_1⟩, p457, q457⟩ := wi (at_T40 (Kd.R_reads' HO_4.out).2.2 x9_3)
              obtain rfl : ad451 = ad457 := (by injection e457)
              obtain ⟨⟨ad458, e458, hx458_0, hx458_1⟩, p458, q458⟩ := wi (at_T40 (Kd.R_reads' HO_4.out).2.2 (ji44))
              obtain rfl : ad451 = ad458 := (by injection e458)
              obtain ⟨⟨ad459, e459, hx459_0, hx459_1⟩, p459, q459⟩ := wi (at_T40 (Kd.R_reads' HO_4.out).2.2 x9_3)
              obtain rfl : ad451 = ad459 := (by injection e459)
              obtain ⟨⟨ad462, e462, hx462_0, hx462_1⟩, p462, q462⟩ := wi (at_T40 (Kd.R_reads' HO_4.out).2.2 (ji44))
              obtain rfl : ad451 = ad462 := (by injection e462)
              obtain ⟨⟨ad464, e464, hx464_0, hx464_1⟩, p464, q464⟩ := wi (at_T40 (Kd.R_reads' HO_4.out).2.2 x9_3)
              obtain rfl : ad451 = ad464 := (by injection e464)
              refine start_ (n := 55) (S := fun w' => w'.cell? ⟨gb455, 0, none⟩ = some (.int .i64 t453) ∧ w'.cell? ⟨gb455, 1, none⟩ = some (.int .i64 t454) ∧ w'.cell? (ad451.add (((ji44)).toNat * 2)) = some (.int .i64 ((rd_T40 t429 (ji44)).f0)) ∧ w'.cell? ⟨(ad451.add (((ji44)).toNat * 2)).block, (ad451.add (((ji44)).toNat * 2)).off + 1, none⟩ = some (.int .i64 ((rd_T40 t429 (ji44)).f1)) ∧ w'.cell? (ad451.add ((x9_3).toNat * 2)) = some (.int .i64 ((rd_T40 t429 x9_3).f0)) ∧ w'.cell? ⟨(ad451.add ((x9_3).toNat * 2)).block, (ad451.add ((x9_3).toNat * 2)).off + 1, none⟩ = some (.int .i64 ((rd_T40 t429 x9_3).f1)) ∧ w'.cell? (ad451.add (((ji44)).toNat * 2)) = some (.int .i64 ((rd_T40 t429 (ji44)).f0)) ∧ w'.cell? ⟨(ad451.add (((ji44)).toNat * 2)).block, (ad451.add (((ji44)).toNat * 2)).off + 1, none⟩ = some (.int .i64 ((rd_T40 t429 (ji44)).f1)) ∧ w'.cell? (ad451.add ((x9_3).toNat * 2)) = some (.int .i64 ((rd_T40 t429 x9_3).f0)) ∧ w'.cell? ⟨(ad451.add ((x9_3).toNat * 2)).block, (ad451.add ((x9_3).toNat * 2)).off + 1, none⟩ = some (.int .i64 ((rd_T40 t429 x9_3).f1)) ∧ w'.cell? (ad451.add (((ji44)).toNat * 2)) = some (.int .i64 ((rd_T40 t429 (ji44)).f0)) ∧ w'.cell? ⟨(ad451.add (((ji44)).toNat * 2)).block, (ad451.add (((ji44)).toNat * 2)).off + 1, none⟩ = some (.int .i64 ((rd_T40 t429 (ji44)).f1)) ∧ w'.cell? (ad451.add ((x9_3).toNat * 2)) = some (.int .i64 ((rd_T40 t429 x9_3).f0)) ∧ w'.cell? ⟨(ad451.add ((x9_3).toNat * 2)).block, (ad451.add ((x9_3).toNat * 2)).off + 1, none⟩ = some (.int .i64 ((rd_T40 t429 x9_3).f1))) (ds := []) (bm 55 0) (by kernel_rfl) rfl rfl ⟨(blk_cell BK455.out 0).trans rfl, (blk_cell BK455.out 1).trans rfl, hx456_0, hx456_1, hx457_0, hx457_1, hx458_0, hx458_1, hx459_0, hx459_1, hx462_0, hx462_1, hx464_0, hx464_1⟩ (fun hHeld => ?_); refine with_tabW laws_FnSetOf.tab17 laws_FnSetOf.bits17 (fun HT_ HW_ => ?_)
              generalize w109.drew = w110 at HO_4 BK455 HB hx456_0 hx456_1 hx457_0 hx457_1 hx458_0 hx458_1 hx459_0 hx459_1 hx462_0 hx462_1 hx464_0 hx464_1 hHeld ⊢
              refine pu 0 96 (bm 55 1) ?_
              refine pu 1 97 (bm 55 3) ?_
              refine pu 2 98 (bm 55 7) ?_
              refine pu 3 99 (bm 55 15) ?_
              refine pu 4 100 (bm 55 31) ?_
              refine pu 6 102 (bm 55 95) ?_
              refine pu 7 103 (bm 55 223) ?_
              refine pu 8 104 (bm 55 479) ?_
              refine pu 9 105 (bm 55 991) ?_
              refine tk 5 101 (bm 55 1023) ?_
              refine tk 10 106 (bm 55 2047) ?_
              refine pu 11 107 (bm 55 4095) ?_
              refine pu 12 108 (bm 55 8191) ?_
              refine pu 13 109 (bm 55 16383) ?_
              refine pu 14 110 (bm 55 32767) ?_
              refine pu 15 111 (bm 55 65535) ?_
              refine pu 16 112 (bm 55 131071) ?_
              refine pu 18 114 (bm 55 393215) ?_
              refine pu 19 115 (bm 55 917503) ?_
              refine pu 20 116 (bm 55 1966079) ?_
              refine tk 17 113 (bm 55 2097151) ?_
              refine tk 21 117 (bm 55 4194303) ?_
              refine on 22 (some 118) (bm 55 8388607) (fun K hK => ?_)
              refine goes_ Try.func25 (by kernel_rfl) rfl #[.agg #[.int .i64 ((rd_T40 t429 (ji44)).f0), .int .i64 ((rd_T40 t429 (ji44)).f1)], .agg #[.int .i64 ((rd_T40 t429 x9_3).f0), .int .i64 ((rd_T40 t429 x9_3).f1)]] (by rfl) rfl rfl (by (try simp only [List.map_toArray, List.map_cons, List.map_nil]); first | done | (simp only [hji44]; rfl) | rfl | (simp only [List.length_drop, List.length_take]; rfl)) ?_
              with_reducible refine (impl_BlockMeets.calls ((rd_T40 t429 (ji44)).f0) ((rd_T40 t429 (ji44)).f1) ((rd_T40 t429 x9_3).f0) ((rd_T40 t429 x9_3).f1) false _ A59.out).mono ?_
              rintro e w111 ⟨rfl, hb⟩
              have HS2_ := (hb.cell (World.block_lt_of_cell? _ _ (hHeld.2.2.1))).trans (hHeld.2.2.1)
              have HS3_ := (hb.cell (World.block_lt_of_cell? _ _ (hHeld.2.2.2.1))).trans (hHeld.2.2.2.1)
              have HS4_ := (hb.cell (World.block_lt_of_cell? _ _ (hHeld.2.2.2.2.1))).trans (hHeld.2.2.2.2.1)
              have HS5_ := (hb.cell (World.block_lt_of_cell? _ _ (hHeld.2.2.2.2.2.1))).trans (hHeld.2.2.2.2.2.1)
              have HS6_ := (hb.cell (World.block_lt_of_cell? _ _ (hHeld.2.2.2.2.2.2.1))).trans (hHeld.2.2.2.2.2.2.1)
              have HS7_ := (hb.cell (World.block_lt_of_cell? _ _ (hHeld.2.2.2.2.2.2.2.1))).trans (hHeld.2.2.2.2.2.2.2.1)
              have HS8_ := (hb.cell (World.block_lt_of_cell? _ _ (hHeld.2.2.2.2.2.2.2.2.1))).trans (hHeld.2.2.2.2.2.2.2.2.1)
              have HS9_ := (hb.cell (World.block_lt_of_cell? _ _ (hHeld.2.2.2.2.2.2.2.2.2.1))).trans (hHeld.2.2.2.2.2.2.2.2.2.1)
              have HS10_ := (hb.cell (World.block_lt_of_cell? _ _ (hHeld.2.2.2.2.2.2.2.2.2.2.1))).trans (hHeld.2.2.2.2.2.2.2.2.2.2.1)
              have HS11_ := (hb.cell (World.block_lt_of_cell? _ _ (hHeld.2.2.2.2.2.2.2.2.2.2.2.1))).trans (hHeld.2.2.2.2.2.2.2.2.2.2.2.1)
              have HS12_ := (hb.cell (World.block_lt_of_cell? _ _ (hHeld.2.2.2.2.2.2.2.2.2.2.2.2.1))).trans (hHeld.2.2.2.2.2.2.2.2.2.2.2.2.1)
              have HS13_ := (hb.cell (World.block_lt_of_cell? _ _ (hHeld.2.2.2.2.2.2.2.2.2.2.2.2.2))).trans (hHeld.2.2.2.2.2.2.2.2.2.2.2.2.2)
              refine ⟨_, rfl, ?_⟩
              replace HO_4 := Aside0.mk (Kd.R_below (zz12 HO_4) hb)
              replace BK455 := Aside0.mk (blk_below (g := gb455) (o := .cells #[.int .i64 t453, .int .i64 t454] 40 (0, 0)) (zz7 BK455) hb)
              replace HB := Aside0.mk (below_step (zz6 GE455) hb)
              (try clear hb)
              (try clear hb2)
              (try clear hk)
              (try clear hi)
              refine hK.out _ _ ⟨(blk_cell BK455.out 0).trans rfl, (blk_cell BK455.out 1).trans rfl, HS2_, HS3_, HS4_, HS5_, HS6_, HS7_, HS8_, HS9_, HS10_, HS11_, HS12_, HS13_⟩ (fun hHeld => ?_)
              clear hK K
              refine nm 118 ?_
              refine pu 23 119 (bm 55 16777215) ?_
              refine pu 24 120 (bm 55 33554431) ?_
              refine pu 27 123 (bm 55 167772159) ?_
              refine pu 28 124 (bm 55 436207615) ?_
              refine pu 29 125 (bm 55 973078527) ?_
              refine pu 30 126 (bm 55 2046820351) ?_
              refine pu 33 129 (bm 55 10636754943) ?_
              refine pu 34 130 (bm 55 27816624127) ?_
              refine pu 35 131 (bm 55 62176362495) ?_
              refine tk 25 121 (bm 55 62209916927) ?_
              refine tk 31 127 (bm 55 64357400575) ?_
              refine tk 36 132 (bm 55 133076877311) ?_
              refine on 26 (some 122) (bm 55 133143986175) (fun K hK => ?_)
              refine gs Try.func23 #[.agg #[.int .i64 t453, .int .i64 t454]] ?_
              with_reducible refine (impl_BlockSize.calls t453 t454 t461 _ A71.out).mono ?_
              rintro e w112 ⟨rfl, hb⟩
              have HS2_ := (hb.cell (World.block_lt_of_cell? _ _ (hHeld.2.2.1))).trans (hHeld.2.2.1)
              have HS3_ := (hb.cell (World.block_lt_of_cell? _ _ (hHeld.2.2.2.1))).trans (hHeld.2.2.2.1)
              have HS4_ := (hb.cell (World.block_lt_of_cell? _ _ (hHeld.2.2.2.2.1))).trans (hHeld.2.2.2.2.1)
              have HS5_ := (hb.cell (World.block_lt_of_cell? _ _ (hHeld.2.2.2.2.2.1))).trans (hHeld.2.2.2.2.2.1)
              have HS6_ := (hb.cell (World.block_lt_of_cell? _ _ (hHeld.2.2.2.2.2.2.1))).trans (hHeld.2.2.2.2.2.2.1)
              have HS7_ := (hb.cell (World.block_lt_of_cell? _ _ (hHeld.2.2.2.2.2.2.2.1))).trans (hHeld.2.2.2.2.2.2.2.1)
              have HS8_ := (hb.cell (World.block_lt_of_cell? _ _ (hHeld.2.2.2.2.2.2.2.2.1))).trans (hHeld.2.2.2.2.2.2.2.2.1)
              have HS9_ := (hb.cell (World.block_lt_of_cell? _ _ (hHeld.2.2.2.2.2.2.2.2.2.1))).trans (hHeld.2.2.2.2.2.2.2.2.2.1)
              have HS10_ := (hb.cell (World.block_lt_of_cell? _ _ (hHeld.2.2.2.2.2.2.2.2.2.2.1))).trans (hHeld.2.2.2.2.2.2.2.2.2.2.1)
              have HS11_ := (hb.cell (World.block_lt_of_cell? _ _ (hHeld.2.2.2.2.2.2.2.2.2.2.2.1))).trans (hHeld.2.2.2.2.2.2.2.2.2.2.2.1)
              have HS12_ := (hb.cell (World.block_lt_of_cell? _ _ (hHeld.2.2.2.2.2.2.2.2.2.2.2.2.1))).trans (hHeld.2.2.2.2.2.2.2.2.2.2.2.2.1)
              have HS13_ := (hb.cell (World.block_lt_of_cell? _ _ (hHeld.2.2.2.2.2.2.2.2.2.2.2.2.2))).trans (hHeld.2.2.2.2.2.2.2.2.2.2.2.2.2)
              refine ⟨_, rfl, ?_⟩
              replace HO_4 := Aside0.mk (Kd.R_below (zz12 HO_4) hb)
              replace BK455 := Aside0.mk (blk_below (g := gb455) (o := .cells #[.int .i64 t453, .int .i64 t454] 40 (0, 0)) (zz7 BK455) hb)
              replace HB := Aside0.mk (below_step (zz6 GE455) hb)
              (try clear hb)
              (try clear hb2)
              (try clear hk)
              (try clear hi)
              refine hK.out _ _ ⟨(blk_cell BK455.out 0).trans rfl, (blk_cell BK455.out 1).trans rfl, HS2_, HS3_, HS4_, HS5_, HS6_, HS7_, HS8_, HS9_, HS10_, HS11_, HS12_, HS13_⟩ (fun hHeld => ?_)
              clear hK K
              refine nm 122 ?_
              refine on 32 (some 128) (bm 55 137438953471) (fun K hK => ?_)
              refine goes_ Try.func23 (by kernel_rfl) rfl #[.agg #[.int .i64 ((rd_T40 t429 (ji44)).f0), .int .i64 ((rd_T40 t429 (ji44)).f1)]] (by rfl) rfl rfl (by (try simp only [List.map_toArray, List.map_cons, List.map_nil]); first | done | (simp only [hji44]; rfl) | rfl | (simp only [List.length_drop, List.length_take]; rfl)) ?_
              with_reducible refine (impl_BlockSize.calls ((rd_T40 t429 (ji44)).f0) ((rd_T40 t429 (ji44)).f1) t463 _ A72.out).mono ?_
              rintro e w113 ⟨rfl, hb⟩
              have HS2_ := (hb.cell (World.block_lt_of_cell? _ _ (hHeld.2.2.1))).trans (hHeld.2.2.1)
              have HS3_ := (hb.cell (World.block_lt_of_cell? _ _ (hHeld.2.2.2.1))).trans (hHeld.2.2.2.1)
              have HS4_ := (hb.cell (World.block_lt_of_cell? _ _ (hHeld.2.2.2.2.1))).trans (hHeld.2.2.2.2.1)
              have HS5_ := (hb.cell (World.block_lt_of_cell? _ _ (hHeld.2.2.2.2.2.1))).trans (hHeld.2.2.2.2.2.1)
              have HS6_ := (hb.cell (World.block_lt_of_cell? _ _ (hHeld.2.2.2.2.2.2.1))).trans (hHeld.2.2.2.2.2.2.1)
              have HS7_ := (hb.cell (World.block_lt_of_cell? _ _ (hHeld.2.2.2.2.2.2.2.1))).trans (hHeld.2.2.2.2.2.2.2.1)
              have HS8_ := (hb.cell (World.block_lt_of_cell? _ _ (hHeld.2.2.2.2.2.2.2.2.1))).trans (hHeld.2.2.2.2.2.2.2.2.1)
              have HS9_ := (hb.cell (World.block_lt_of_cell? _ _ (hHeld.2.2.2.2.2.2.2.2.2.1))).trans (hHeld.2.2.2.2.2.2.2.2.2.1)
              have HS10_ := (hb.cell (World.block_lt_of_cell? _ _ (hHeld.2.2.2.2.2.2.2.2.2.2.1))).trans (hHeld.2.2.2.2.2.2.2.2.2.2.1)
              have HS11_ := (hb.cell (World.block_lt_of_cell? _ _ (hHeld.2.2.2.2.2.2.2.2.2.2.2.1))).trans (hHeld.2.2.2.2.2.2.2.2.2.2.2.1)
              have HS12_ := (hb.cell (World.block_lt_of_cell? _ _ (hHeld.2.2.2.2.2.2.2.2.2.2.2.2.1))).trans (hHeld.2.2.2.2.2.2.2.2.2.2.2.2.1)
              have HS13_ := (hb.cell (World.block_lt_of_cell? _ _ (hHeld.2.2.2.2.2.2.2.2.2.2.2.2.2))).trans (hHeld.2.2.2.2.2.2.2.2.2.2.2.2.2)
              refine ⟨_, rfl, ?_⟩
              replace HO_4 := Aside0.mk (Kd.R_below (zz12 HO_4) hb)
              replace BK455 := Aside0.mk (blk_below (g := gb455) (o := .cells #[.int .i64 t453, .int .i64 t454] 40 (0, 0)) (zz7 BK455) hb)
              replace HB := Aside0.mk (below_step (zz6 GE455) hb)
              (try clear hb)
              (try clear hb2)
              (try clear hk)
              (try clear hi)
              refine hK.out _ _ ⟨(blk_cell BK455.out 0).trans rfl, (blk_cell BK455.out 1).trans rfl, HS2_, HS3_, HS4_, HS5_, HS6_, HS7_, HS8_, HS9_, HS10_, HS11_, HS12_, HS13_⟩ (fun hHeld => ?_)
              clear hK K
              refine nm 128 ?_
              refine on 37 (some 133) (bm 55 274877906943) (fun K hK => ?_)
              refine gs Try.func23 #[.agg #[.int .i64 ((rd_T40 t429 x9_3).f0), .int .i64 ((rd_T40 t429 x9_3).f1)]] ?_
              with_reducible refine (impl_BlockSize.calls ((rd_T40 t429 x9_3).f0) ((rd_T40 t429 x9_3).f1) t465 _ A73.out).mono ?_
              rintro e w114 ⟨rfl, hb⟩
              have HS2_ := (hb.cell (World.block_lt_of_cell? _ _ (hHeld.2.2.1))).trans (hHeld.2.2.1)
              have HS3_ := (hb.cell (World.block_lt_of_cell? _ _ (hHeld.2.2.2.1))).trans (hHeld.2.2.2.1)
              have HS4_ := (hb.cell (World.block_lt_of_cell? _ _ (hHeld.2.2.2.2.1))).trans (hHeld.2.2.2.2.1)
              have HS5_ := (hb.cell (World.block_lt_of_cell? _ _ (hHeld.2.2.2.2.2.1))).trans (hHeld.2.2.2.2.2.1)
              have HS6_ := (hb.cell (World.block_lt_of_cell? _ _ (hHeld.2.2.2.2.2.2.1))).trans (hHeld.2.2.2.2.2.2.1)
              have HS7_ := (hb.cell (World.block_lt_of_cell? _ _ (hHeld.2.2.2.2.2.2.2.1))).trans (hHeld.2.2.2.2.2.2.2.1)
              have HS8_ := (hb.cell (World.block_lt_of_cell? _ _ (hHeld.2.2.2.2.2.2.2.2.1))).trans (hHeld.2.2.2.2.2.2.2.2.1)
              have HS9_ := (hb.cell (World.block_lt_of_cell? _ _ (hHeld.2.2.2.2.2.2.2.2.2.1))).trans (hHeld.2.2.2.2.2.2.2.2.2.1)
              have HS10_ := (hb.cell (World.block_lt_of_cell? _ _ (hHeld.2.2.2.2.2.2.2.2.2.2.1))).trans (hHeld.2.2.2.2.2.2.2.2.2.2.1)
              have HS11_ := (hb.cell (World.block_lt_of_cell? _ _ (hHeld.2.2.2.2.2.2.2.2.2.2.2.1))).trans (hHeld.2.2.2.2.2.2.2.2.2.2.2.1)
              have HS12_ := (hb.cell (World.block_lt_of_cell? _ _ (hHeld.2.2.2.2.2.2.2.2.2.2.2.2.1))).trans (hHeld.2.2.2.2.2.2.2.2.2.2.2.2.1)
              have HS13_ := (hb.cell (World.block_lt_of_cell? _ _ (hHeld.2.2.2.2.2.2.2.2.2.2.2.2.2))).trans (hHeld.2.2.2.2.2.2.2.2.2.2.2.2.2)
              refine ⟨_, rfl, ?_⟩
              replace HO_4 := Aside0.mk (Kd.R_below (zz12 HO_4) hb)
              replace BK455 := Aside0.mk (blk_below (g := gb455) (o := .cells #[.int .i64 t453, .int .i64 t454] 40 (0, 0)) (zz7 BK455) hb)
              replace HB := Aside0.mk (below_step (zz6 GE455) hb)
              (try clear hb)
              (try clear hb2)
              (try clear hk)
              (try clear hi)
              refine hK.out _ _ ⟨(blk_cell BK455.out 0).trans rfl, (blk_cell BK455.out 1).trans rfl, HS2_, HS3_, HS4_, HS5_, HS6_, HS7_, HS8_, HS9_, HS10_, HS11_, HS12_, HS13_⟩ (fun hHeld => ?_)
              clear hK K
              refine nm 133 ?_
              refine pu 38 134 (bm 55 549755813887) ?_
              refine pu 39 135 (bm 55 1099511627775) ?_
              refine pu 40 136 (bm 55 2199023255551) ?_
              refine po 41 137 (bm 55 4398046511103) ?_
              refine po 42 138 (bm 55 8796093022207) ?_
              refine po 43 139 (bm 55 17592186044415) ?_
              refine po 44 140 (bm 55 35184372088831) ?_
              refine po 45 141 (bm 55 70368744177663) ?_
              refine po 46 142 (bm 55 140737488355327) ?_
              refine po 47 143 (bm 55 281474976710655) ?_
              refine po 48 144 (bm 55 562949953421311) ?_
              refine po 49 145 (bm 55 1125899906842623) ?_
              refine po 50 146 (bm 55 2251799813685247) ?_
              refine po 51 147 (bm 55 4503599627370495) ?_
              refine po 52 148 (bm 55 9007199254740991) ?_
              refine pu 53 149 (bm 55 18014398509481983) ?_
              refine pu 54 150 (bm 55 36028797018963967) ?_
              refine done_ (done_of HT_.out (by kernel_rfl)) ?_
              try go_wp2
              go_roundg k3
              case measure => have := HJ5.out; have := HK2.out; have := HK3.out; omega
              case rel => exact ⟨(wrap64 (x9_3 + 1)), zz1, H', ⟨by have := HJ5.out; have := HK2.out; have := HK3.out; omega⟩, ⟨zz18 HO_4⟩, ⟨zz6 GE455⟩⟩
          ·replace H := Option.bind_eq_some_iff.mp H
           obtain ⟨⟨t445, t446⟩, A1150, H⟩ := H
           replace H : ((impl_SetOk.f k3 t429).bind fun t449 => (if t449 = true then (if t446 = true then ((laws_ovBlocks.f k3 t445 t429).bind fun t450 => (some t450)) else (some false)) else (some false))) = some r := H
           have A115 := Aside0.mk A1150
           clear A1150
           replace H := bd H
           obtain ⟨t449, A116, H⟩ := H
           replace H : (if t449 = true then (if t446 = true then ((laws_ovBlocks.f k3 t445 t429).bind fun t450 => (some t450)) else (some false)) else (some false)) = some r := H
           by_cases c117 : t449 = true
           ·subst c117
            have H1 : (if t446 = true then ((laws_ovBlocks.f k3 t445 t429).bind fun t450 => (some t450)) else (some false)) = some r := by rw [if_pos rfl] at H; exact H
            clear H
            have H := H1
            clear H1
            by_cases c118 : t446 = true
            ·subst c118
             have H1 : ((laws_ovBlocks.f k3 t445 t429).bind fun t450 => (some t450)) = some r := by rw [if_pos rfl] at H; exact H
             clear H
             have H := H1
             clear H1
             replace H := bd H
             obtain ⟨t450, A119, H⟩ := H
             replace H : (some t450) = some r := H
             obtain rfl := Option.some.inj H
             obtain ⟨Ao120, co120, eo120⟩ := Kd.R_slice HO_4.out
             subst eo120
             go_wp2_with (first | (refine gc (some 153) Try.func21 #[.slice Ao120 t429.length co120] ?_; (with_reducible refine (impl_SetOf.calls k3 _ _ t429 t445 true _ ?side1 ?side2 A115.out).mono ?_); (case side1 => exact zz19 HO_4); (case side2 => exact zz22 HO_4); rintro e w121 ⟨v447, rfl, ho0, hb⟩; refine ⟨_, rfl, ?_⟩; have HO448 := Aside0.mk (Kd.R_lower (Kd.R_new' ho0 (Kd.R_lt (zz12 HO_4))) (below_size zz5)); replace HO_4 := Aside0.mk (Kd.R_elder' (zz12 HO_4) (Kd.R_base ho0) hb); replace HB := Aside0.mk (below_step zz5 hb); clear hb ho0) | (refine gc (some 157) Try.func13 #[.slice Ao120 t429.length co120] ?_; (with_reducible refine (impl_SetOk.calls k3 _ _ t429 true _ ?side1 ?side2 A116.out).mono ?_); (case side1 => exact zz19 HO_4); (case side2 => exact zz22 HO_4); rintro e w122 ⟨rfl, hb⟩; refine ⟨_, rfl, ?_⟩; replace HO_4 := Aside0.mk (Kd.R_below (zz12 HO_4) hb); replace HO448 := Aside0.mk (Kd.R_below (zz12 HO448) hb); replace HB := Aside0.mk (below_step zz5 hb); clear hb; obtain ⟨Ao123, co123, eo123⟩ := Kd.R_slice HO448.out; subst eo123) | (go_at_call 11; (with_reducible refine (laws_ovBlocks.calls k3 _ _ t445 _ _ t429 t450 _ ?side1 ?side2 ?side3 ?side4 A119.out).mono ?_); (case side1 => exact zz19 HO448); (case side2 => exact zz22 HO448); (case side3 => exact zz19 HO_4); (case side4 => exact zz22 HO_4); rintro e w' ⟨rfl, ⟨nd, rfl⟩⟩))
             go_ret
             exact ⟨zz8, zz5⟩
            ·replace c118 := Bool.eq_false_iff.mpr c118
             subst c118
             have H1 : (some false) = some r := by rw [if_neg (show ¬ (false = true) by decide)] at H; exact H
             clear H
             have H := H1
             clear H1
             obtain rfl := Option.some.inj H
             obtain ⟨Ao124, co124, eo124⟩ := Kd.R_slice HO_4.out
             subst eo124
             go_wp2_with (first | (refine gc (some 153) Try.func21 #[.slice Ao124 t429.length co124] ?_; (with_reducible refine (impl_SetOf.calls k3 _ _ t429 t445 false _ ?side1 ?side2 A115.out).mono ?_); (case side1 => exact zz19 HO_4); (case side2 => exact zz22 HO_4); rintro e w125 ⟨v447, rfl, ho0, hb⟩; refine ⟨_, rfl, ?_⟩; have HO448 := Aside0.mk (Kd.R_lower (Kd.R_new' ho0 (Kd.R_lt (zz12 HO_4))) (below_size zz5)); replace HO_4 := Aside0.mk (Kd.R_elder' (zz12 HO_4) (Kd.R_base ho0) hb); replace HB := Aside0.mk (below_step zz5 hb); clear hb ho0) | (refine gc (some 157) Try.func13 #[.slice Ao124 t429.length co124] ?_; (with_reducible refine (impl_SetOk.calls k3 _ _ t429 true _ ?side1 ?side2 A116.out).mono ?_); (case side1 => exact zz19 HO_4); (case side2 => exact zz22 HO_4); rintro e w126 ⟨rfl, hb⟩; refine ⟨_, rfl, ?_⟩; replace HO_4 := Aside0.mk (Kd.R_below (zz12 HO_4) hb); replace HO448 := Aside0.mk (Kd.R_below (zz12 HO448) hb); replace HB := Aside0.mk (below_step zz5 hb); clear hb))
             go_ret
             exact ⟨zz8, zz5⟩
           ·replace c117 := Bool.eq_false_iff.mpr c117
            subst c117
            have H1 : (some false) = some r := by rw [if_neg (show ¬ (false = true) by decide)] at H; exact H
            clear H
            have H := H1
            clear H1
            obtain rfl := Option.some.inj H
            obtain ⟨Ao127, co127, eo127⟩ := Kd.R_slice HO_4.out
            subst eo127
            go_wp2_with (first | (refine gc (some 153) Try.func21 #[.slice Ao127 t429.length co127] ?_; (with_reducible refine (impl_SetOf.calls k3 _ _ t429 t445 t446 _ ?side1 ?side2 A115.out).mono ?_); (case side1 => exact zz19 HO_4); (case side2 => exact zz22 HO_4); rintro e w128 ⟨v447, rfl, ho0, hb⟩; refine ⟨_, rfl, ?_⟩; have HO448 := Aside0.mk (Kd.R_lower (Kd.R_new' ho0 (Kd.R_lt (zz12 HO_4))) (below_size zz5)); replace HO_4 := Aside0.mk (Kd.R_elder' (zz12 HO_4) (Kd.R_base ho0) hb); replace HB := Aside0.mk (below_step zz5 hb); clear hb ho0) | (refine gc (some 157) Try.func13 #[.slice Ao127 t429.length co127] ?_; (with_reducible refine (impl_SetOk.calls k3 _ _ t429 false _ ?side1 ?side2 A116.out).mono ?_); (case side1 => exact zz19 HO_4); (case side2 => exact zz22 HO_4); rintro e w129 ⟨rfl, hb⟩; refine ⟨_, rfl, ?_⟩; replace HO_4 := Aside0.mk (Kd.R_below (zz12 HO_4) hb); replace HO448 := Aside0.mk (Kd.R_below (zz12 HO448) hb); replace HB := Aside0.mk (below_step zz5 hb); clear hb))
            go_ret
            exact ⟨zz8, zz5⟩

/-- THE ONE PURE STATEMENT of laws_FnSetOf: yours. -/
def laws_FnSetOf.Pure : Prop := ∀ (l0 : List Int), l0.length ≤ maxLen → l0.length * 1 ≤ 140737488351232 → (∀ x ∈ l0, (Lit.int .u8 x).wf = true) → ∃ k, laws_FnSetOf.f k l0 = some true
theorem laws_FnSetOf.walk (P : laws_FnSetOf.Pure) (a0 : Option Addr) (len0 cap0 : Nat) (z0 : List Int) (w : World) (w0 : (a0 = none ∧ len0 = 0 ∧ cap0 = 0 ∧ z0 = []) ∨ ∃ x, a0 = some x ∧ len0 ≤ cap0 ∧ cap0 ≤ maxLen ∧ z0.length = cap0 ∧ (∀ i, i < z0.length → w.cell? (x.add i) = some (.int .u8 (z0.getD i 0))) ∧ ∀ n ∈ z0, (Lit.int .u8 n).wf = true) (y0 : len0 * 1 ≤ 140737488351232) :
  Calls Try.prog 5 #[.slice a0 len0 cap0] w fun e w' => e = .returned (.bool true) ∧ Below w.heap.size w w' := by
 obtain ⟨l0, rfl, hr0, hm0, hw0, hc0⟩ := ReadsInt.ofRowC w0
 obtain ⟨k, h⟩ := P l0 hm0 y0 hw0
 refine (laws_FnSetOf.calls k _ _ l0 true w (Kd.C_of_reads (d := (0 : Int)) (h1 := fun _ => rfl) hr0) hc0 h).mono ?_
 rintro e w' ⟨rfl, hd⟩
 exact ⟨rfl, hd⟩

end Go.Proofs.Ythkjkmgbdahggaa.PO
