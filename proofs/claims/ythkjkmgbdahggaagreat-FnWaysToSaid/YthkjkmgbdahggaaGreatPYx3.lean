/- A text printed by this session's wip/myprint.py over the kit's print: contracts of functions of the given program, each at what its Lean function says. -/
import Derived.Test.YthkjkmgbdahggaaGreatPYx0
import Derived.Test.YthkjkmgbdahggaaGreatPYx2
namespace Go.Proofs.YthkjkmgbdahggaaGreat.PY
open Go.RowKit Go.Proofs.YthkjkmgbdahggaaGreatW.PrintWords Go.Proofs.YthkjkmgbdahggaaGreatW.PrintLast Go.Proofs.YthkjkmgbdahggaaGreatW.PrintMore Go.Proofs.YthkjkmgbdahggaaGreat.Sq
attribute [local go_sem] max2_int min2_int max_two min_two max_three min_three max_four min_four   -- for this text's walks alone
set_option linter.unusedVariables false
set_option linter.unusedSimpArgs false
def spec_WaysOk.l0 : Nat → List (S34) → Int → Option (Bool)
 | 0, _, _ => none
 | k + 1, x0, x3 => if x3 < (x0.length : Int) then (if 0 ≤ x3 then ((spec_BlockOk.f k ((rd_T34 x0 x3).f0.f0) ((rd_T34 x0 x3).f0.f1)).bind fun t119 => (if t119 = true then ((spec_l1In.f ((rd_T34 x0 x3).f1) 0 99).bind fun t121 => (if t121 = true then (if x3 > 0 then (if 0 ≤ (wrap64 (x3 - 1)) then (if (wrap64 (x3 - 1)) < (x0.length : Int) then ((spec_l3Cmp.f ((rd_T34 x0 (wrap64 (x3 - 1))).f0.f0) ((rd_T34 x0 (wrap64 (x3 - 1))).f0.f1) ((rd_T34 x0 x3).f0.f0) ((rd_T34 x0 x3).f0.f1)).bind fun t124 => (if t124 ≥ 0 then (some false) else (spec_WaysOk.l0 k x0 (wrap64 (x3 + 1))))) else (none)) else (none)) else (spec_WaysOk.l0 k x0 (wrap64 (x3 + 1)))) else (some false))) else (some false))) else (none)) else (some (decide ((x0.length : Int) ≤ 40)))
def spec_WaysOk.f (k : Nat) (l0 : List (S34)) : Option (Bool) := spec_WaysOk.l0 k l0 0
def spec_WaysOk.T4 : Bool × List (List Nat × List Nat) := (true, [([], []), ([], []), ([0, 1], [0, 1]), ([2], [2]), ([3], [3]), ([4], [4]), ([5], [5]), ([6, 5], [6]), ([7], [7]), ([7], [7]), ([8, 9, 7], [7, 8, 9]), ([10, 7], [7, 10]), ([11, 7], [7, 11]), ([12, 7, 7], [7, 12]), ([13, 7], [7, 13]), ([7, 14], [7, 14]), ([15, 13], [15]), ([16], [16]), ([17, 16], [16, 17]), ([18, 16, 16], [16, 18]), ([19], [19]), ([19], [19]), ([21, 19], [19, 21]), ([20, 22, 19], [19, 20, 22]), ([23, 19], [19, 23]), ([24, 19], [19, 24]), ([19], [19]), ([19], [19]), ([26, 27, 19], [19, 26, 27]), ([28, 19], [19, 28]), ([29, 19], [19, 29]), ([25, 30, 19, 19], [19, 25, 30]), ([31, 19], [19, 31]), ([19, 32, 16], [16, 19, 32]), ([16, 33], [16, 33])])
def spec_WaysOk.B4 : List Nat := [0, 0, 3, 7, 15, 31, 63, 127, 255, 255, 1023, 2047, 4095, 8191, 16383, 32767, 65535, 131071, 262143, 524287, 1048575, 1048575, 3145727, 8388607, 16777215, 33554431, 1048575, 1048575, 202375167, 470810623, 1007681535, 2147483647, 4294967295, 8589934591, 17179869183]
theorem spec_WaysOk.tab4 : rtab .any (opsOf Tryz.f23 4) = spec_WaysOk.T4 := by kernel_rfl
theorem spec_WaysOk.bits4 : waitsOk spec_WaysOk.T4.2 spec_WaysOk.B4 = true := by kernel_rfl
set_option maxHeartbeats 8000000 in
set_option maxRecDepth 100000 in
theorem spec_WaysOk.calls (k : Nat) (A0 : Option Addr) (c0 : Nat) (l0 : List (S34)) (r : Bool) (w : World) (hr0 : Kd.C k34 w A0 l0.length l0) (hc0 : l0.length ≤ c0) (h : spec_WaysOk.f k l0 = some r) :
  Calls Tryz.prog 23 #[.slice A0 l0.length c0] w fun e w' => e = .returned (.bool r) ∧ Below w.heap.size w w' := by
 have hu32 := Tryz.underlying32
 have HR0 := Aside0.mk hr0
 have HC0 := Aside0.mk hc0
 clear hr0 hc0
 have HB := Aside0.mk (Below.refl w.heap.size w)
 have H : (spec_WaysOk.l0 k l0 0) = some r := h
 clear h
 have H' := Aside0.mk H
 clear H
 go_enter Tryz.func23, Tryz.ntmps23
 go_wp2
 go_loopg [3] k (fun kq v3 w' => ∃ (x3_1 : Int), v3 = .int .i64 x3_1 ∧ Aside0 (spec_WaysOk.l0 kq l0 x3_1 = some r) ∧ Aside0 (kq ≤ k) ∧ Aside0 (Below w.heap.size w w'))
 case atStart => exact ⟨(0), zz8, H', ⟨Nat.le_refl _⟩, ⟨zz3⟩⟩
 case round =>
  clear H'
  obtain ⟨x3_1, rfl, HA, HK1, HB⟩ := hrel
  cases gk with
  | zero => exact absurd HA.out (by simp [spec_WaysOk.l0])
  | succ k1 =>
   have H := HA.out
   clear HA
   simp only [spec_WaysOk.l0] at H
   replace H := ic H
   rcases H with ⟨c2b0, H⟩ | ⟨c2b0, H⟩
   ·replace H := gd H
    obtain ⟨c3b0, H⟩ := H
    replace H := bd H
    obtain ⟨t119, A4, H⟩ := H
    replace H : (if t119 = true then ((spec_l1In.f ((rd_T34 l0 x3_1).f1) 0 99).bind fun t121 => (if t121 = true then (if x3_1 > 0 then (if 0 ≤ (wrap64 (x3_1 - 1)) then (if (wrap64 (x3_1 - 1)) < (l0.length : Int) then ((spec_l3Cmp.f ((rd_T34 l0 (wrap64 (x3_1 - 1))).f0.f0) ((rd_T34 l0 (wrap64 (x3_1 - 1))).f0.f1) ((rd_T34 l0 x3_1).f0.f0) ((rd_T34 l0 x3_1).f0.f1)).bind fun t124 => (if t124 ≥ 0 then (some false) else (spec_WaysOk.l0 k1 l0 (wrap64 (x3_1 + 1))))) else (none)) else (none)) else (spec_WaysOk.l0 k1 l0 (wrap64 (x3_1 + 1)))) else (some false))) else (some false)) = some r := H
    by_cases c5 : t119 = true
    ·subst c5
     have H1 : ((spec_l1In.f ((rd_T34 l0 x3_1).f1) 0 99).bind fun t121 => (if t121 = true then (if x3_1 > 0 then (if 0 ≤ (wrap64 (x3_1 - 1)) then (if (wrap64 (x3_1 - 1)) < (l0.length : Int) then ((spec_l3Cmp.f ((rd_T34 l0 (wrap64 (x3_1 - 1))).f0.f0) ((rd_T34 l0 (wrap64 (x3_1 - 1))).f0.f1) ((rd_T34 l0 x3_1).f0.f0) ((rd_T34 l0 x3_1).f0.f1)).bind fun t124 => (if t124 ≥ 0 then (some false) else (spec_WaysOk.l0 k1 l0 (wrap64 (x3_1 + 1))))) else (none)) else (none)) else (spec_WaysOk.l0 k1 l0 (wrap64 (x3_1 + 1)))) else (some false))) = some r := by rw [if_pos rfl] at H; exact H
     clear H
     have H := H1
     clear H1
     replace H := bd H
     obtain ⟨t121, A6, H⟩ := H
     replace H : (if t121 = true then (if x3_1 > 0 then (if 0 ≤ (wrap64 (x3_1 - 1)) then (if (wrap64 (x3_1 - 1)) < (l0.length : Int) then ((spec_l3Cmp.f ((rd_T34 l0 (wrap64 (x3_1 - 1))).f0.f0) ((rd_T34 l0 (wrap64 (x3_1 - 1))).f0.f1) ((rd_T34 l0 x3_1).f0.f0) ((rd_T34 l0 x3_1).f0.f1)).bind fun t124 => (if t124 ≥ 0 then (some false) else (spec_WaysOk.l0 k1 l0 (wrap64 (x3_1 + 1))))) else (none)) else (none)) else (spec_WaysOk.l0 k1 l0 (wrap64 (x3_1 + 1)))) else (some false)) = some r := H
     by_cases c7 : t121 = true
     ·subst c7
      have H1 : (if x3_1 > 0 then (if 0 ≤ (wrap64 (x3_1 - 1)) then (if (wrap64 (x3_1 - 1)) < (l0.length : Int) then ((spec_l3Cmp.f ((rd_T34 l0 (wrap64 (x3_1 - 1))).f0.f0) ((rd_T34 l0 (wrap64 (x3_1 - 1))).f0.f1) ((rd_T34 l0 x3_1).f0.f0) ((rd_T34 l0 x3_1).f0.f1)).bind fun t124 => (if t124 ≥ 0 then (some false) else (spec_WaysOk.l0 k1 l0 (wrap64 (x3_1 + 1))))) else (none)) else (none)) else (spec_WaysOk.l0 k1 l0 (wrap64 (x3_1 + 1)))) = some r := by rw [if_pos rfl] at H; exact H
      clear H
      have H := H1
      clear H1
      replace H := ic H
      rcases H with ⟨c8b0, H⟩ | ⟨c8b0, H⟩
      ·obtain ⟨ji9, hji9⟩ : ∃ j_ : Int, (wrap64 (x3_1 - 1)) = j_ := ⟨_, rfl⟩
       replace H : (if 0 ≤ (ji9) then (if (ji9) < (l0.length : Int) then ((spec_l3Cmp.f ((rd_T34 l0 (ji9)).f0.f0) ((rd_T34 l0 (ji9)).f0.f1) ((rd_T34 l0 x3_1).f0.f0) ((rd_T34 l0 x3_1).f0.f1)).bind fun t124 => (if t124 ≥ 0 then (some false) else (spec_WaysOk.l0 k1 l0 (wrap64 (x3_1 + 1))))) else (none)) else (none)) = some r := by first | (rw [hji9] at H; exact H) | (simp only [hji9] at H ⊢; exact H)
       (try rw [hji9] at A4)
       (try rw [hji9] at A6)
       have hji9w : (IntKind.i64.wrap (x3_1 - 1)) = ji9 := (i64_w _).trans hji9
       replace H := gd H
       obtain ⟨c10b0, H⟩ := H
       replace H := gd H
       obtain ⟨c11b0, H⟩ := H
       replace H := bd H
       obtain ⟨t124, A12, H⟩ := H
       replace H : (if t124 ≥ 0 then (some false) else (spec_WaysOk.l0 k1 l0 (wrap64 (x3_1 + 1)))) = some r := H
       replace H := ic H
       rcases H with ⟨c13b0, H⟩ | ⟨c13b0, H⟩
       ·obtain rfl := Option.some.inj H
        try go_wp2
        replace HB := Aside0.mk (below_drew1 HB.out)
        obtain ⟨⟨ad118, e118, hx118_0, hx118_1, hx118_2⟩, p118, q118⟩ := wi (at_T34 HR0.out x3_1)
        have hw118_2 := hx118_2
        have hw118_1 := hx118_1
        have hw118_0 := hx118_0
        cases e118
        replace hx118_0 := (HB.out.cell (World.block_lt_of_cell? w _ hx118_0)).trans hx118_0
        replace hx118_1 := (HB.out.cell (World.block_lt_of_cell? w _ hx118_1)).trans hx118_1
        replace hx118_2 := (HB.out.cell (World.block_lt_of_cell? w _ hx118_2)).trans hx118_2
        obtain ⟨⟨ad120, e120, hx120_0, hx120_1, hx120_2⟩, p120, q120⟩ := wi (at_T34 HR0.out x3_1)
        have hw120_2 := hx120_2
        have hw120_1 := hx120_1
        have hw120_0 := hx120_0
        obtain rfl : ad118 = ad120 := (by injection e120)
        replace hx120_0 := (HB.out.cell (World.block_lt_of_cell? w _ hx120_0)).trans hx120_0
        replace hx120_1 := (HB.out.cell (World.block_lt_of_cell? w _ hx120_1)).trans hx120_1
        replace hx120_2 := (HB.out.cell (World.block_lt_of_cell? w _ hx120_2)).trans hx120_2
        obtain ⟨⟨ad122, e122, hx122_0, hx122_1, hx122_2⟩, p122, q122⟩ := wi (at_T34 HR0.out (ji9))
        have hw122_2 := hx122_2
        have hw122_1 := hx122_1
        have hw122_0 := hx122_0
        obtain rfl : ad118 = ad122 := (by injection e122)
        replace hx122_0 := (HB.out.cell (World.block_lt_of_cell? w _ hx122_0)).trans hx122_0
        replace hx122_1 := (HB.out.cell (World.block_lt_of_cell? w _ hx122_1)).trans hx122_1
        replace hx122_2 := (HB.out.cell (World.block_lt_of_cell? w _ hx122_2)).trans hx122_2
        obtain ⟨⟨ad123, e123, hx123_0, hx123_1, hx123_2⟩, p123, q123⟩ := wi (at_T34 HR0.out x3_1)
        have hw123_2 := hx123_2
        have hw123_1 := hx123_1
        have hw123_0 := hx123_0
        obtain rfl : ad118 = ad123 := (by injection e123)
        replace hx123_0 := (HB.out.cell (World.block_lt_of_cell? w _ hx123_0)).trans hx123_0
        replace hx123_1 := (HB.out.cell (World.block_lt_of_cell? w _ hx123_1)).trans hx123_1
        replace hx123_2 := (HB.out.cell (World.block_lt_of_cell? w _ hx123_2)).trans hx123_2
        refine start_ (n := 35) (S := fun w' => w'.cell? (ad118.add ((x3_1).toNat * 3)) = some (.int .i64 ((rd_T34 l0 x3_1).f0.f0)) ∧ w'.cell? ⟨(ad118.add ((x3_1).toNat * 3)).block, (ad118.add ((x3_1).toNat * 3)).off + 1, none⟩ = some (.int .i64 ((rd_T34 l0 x3_1).f0.f1)) ∧ w'.cell? ⟨(ad118.add ((x3_1).toNat * 3)).block, (ad118.add ((x3_1).toNat * 3)).off + 2, none⟩ = some (.int .i64 ((rd_T34 l0 x3_1).f1)) ∧ w'.cell? (ad118.add ((x3_1).toNat * 3)) = some (.int .i64 ((rd_T34 l0 x3_1).f0.f0)) ∧ w'.cell? ⟨(ad118.add ((x3_1).toNat * 3)).block, (ad118.add ((x3_1).toNat * 3)).off + 1, none⟩ = some (.int .i64 ((rd_T34 l0 x3_1).f0.f1)) ∧ w'.cell? ⟨(ad118.add ((x3_1).toNat * 3)).block, (ad118.add ((x3_1).toNat * 3)).off + 2, none⟩ = some (.int .i64 ((rd_T34 l0 x3_1).f1)) ∧ w'.cell? (ad118.add (((ji9)).toNat * 3)) = some (.int .i64 ((rd_T34 l0 (ji9)).f0.f0)) ∧ w'.cell? ⟨(ad118.add (((ji9)).toNat * 3)).block, (ad118.add (((ji9)).toNat * 3)).off + 1, none⟩ = some (.int .i64 ((rd_T34 l0 (ji9)).f0.f1)) ∧ w'.cell? ⟨(ad118.add (((ji9)).toNat * 3)).block, (ad118.add (((ji9)).toNat * 3)).off + 2, none⟩ = some (.int .i64 ((rd_T34 l0 (ji9)).f1)) ∧ w'.cell? (ad118.add ((x3_1).toNat * 3)) = some (.int .i64 ((rd_T34 l0 x3_1).f0.f0)) ∧ w'.cell? ⟨(ad118.add ((x3_1).toNat * 3)).block, (ad118.add ((x3_1).toNat * 3)).off + 1, none⟩ = some (.int .i64 ((rd_T34 l0 x3_1).f0.f1)) ∧ w'.cell? ⟨(ad118.add ((x3_1).toNat * 3)).block, (ad118.add ((x3_1).toNat * 3)).off + 2, none⟩ = some (.int .i64 ((rd_T34 l0 x3_1).f1))) (ds := []) (bm 35 0) (by kernel_rfl) rfl rfl ⟨((HB.out.cell (World.block_lt_of_cell? w _ hw118_0)).trans hw118_0), ((HB.out.cell (World.block_lt_of_cell? w _ hw118_1)).trans hw118_1), ((HB.out.cell (World.block_lt_of_cell? w _ hw118_2)).trans hw118_2), ((HB.out.cell (World.block_lt_of_cell? w _ hw120_0)).trans hw120_0), ((HB.out.cell (World.block_lt_of_cell? w _ hw120_1)).trans hw120_1), ((HB.out.cell (World.block_lt_of_cell? w _ hw120_2)).trans hw120_2), ((HB.out.cell (World.block_lt_of_cell? w _ hw122_0)).trans hw122_0), ((HB.out.cell (World.block_lt_of_cell? w _ hw122_1)).trans hw122_1), ((HB.out.cell (World.block_lt_of_cell? w _ hw122_2)).trans hw122_2), ((HB.out.cell (World.block_lt_of_cell? w _ hw123_0)).trans hw123_0), ((HB.out.cell (World.block_lt_of_cell? w _ hw123_1)).trans hw123_1), ((HB.out.cell (World.block_lt_of_cell? w _ hw123_2)).trans hw123_2)⟩ (fun hHeld => ?_); refine with_tabW spec_WaysOk.tab4 spec_WaysOk.bits4 (fun HT_ HW_ => ?_)
        generalize wr.drew = w14 at HB hx118_0 hx118_1 hx118_2 hx120_0 hx120_1 hx120_2 hx122_0 hx122_1 hx122_2 hx123_0 hx123_1 hx123_2 hHeld ⊢
        refine pu 0 10 (bm 35 1) ?_
        refine pu 1 11 (bm 35 3) ?_
        refine pu 2 12 (bm 35 7) ?_
        refine pu 3 13 (bm 35 15) ?_
        refine tk 4 14 (bm 35 31) ?_
        refine on 5 (some 15) (bm 35 63) (fun K hK => ?_)
        refine gs Tryz.func47 #[.agg #[.int .i64 ((rd_T34 l0 x3_1).f0.f0), .int .i64 ((rd_T34 l0 x3_1).f0.f1)]] ?_
        with_reducible refine (spec_BlockOk.calls k1 ((rd_T34 l0 x3_1).f0.f0) ((rd_T34 l0 x3_1).f0.f1) true _ A4.out).mono ?_
        rintro e w15 ⟨rfl, hb⟩
        refine ⟨_, rfl, ?_⟩
        replace HB := Aside0.mk (below_step zz3 hb)
        (try clear hb)
        (try clear hb2)
        (try clear hk)
        (try clear hi)
        refine hK.out _ _ ⟨((HB.out.cell (World.block_lt_of_cell? w _ hw118_0)).trans hw118_0), ((HB.out.cell (World.block_lt_of_cell? w _ hw118_1)).trans hw118_1), ((HB.out.cell (World.block_lt_of_cell? w _ hw118_2)).trans hw118_2), ((HB.out.cell (World.block_lt_of_cell? w _ hw120_0)).trans hw120_0), ((HB.out.cell (World.block_lt_of_cell? w _ hw120_1)).trans hw120_1), ((HB.out.cell (World.block_lt_of_cell? w _ hw120_2)).trans hw120_2), ((HB.out.cell (World.block_lt_of_cell? w _ hw122_0)).trans hw122_0), ((HB.out.cell (World.block_lt_of_cell? w _ hw122_1)).trans hw122_1), ((HB.out.cell (World.block_lt_of_cell? w _ hw122_2)).trans hw122_2), ((HB.out.cell (World.block_lt_of_cell? w _ hw123_0)).trans hw123_0), ((HB.out.cell (World.block_lt_of_cell? w _ hw123_1)).trans hw123_1), ((HB.out.cell (World.block_lt_of_cell? w _ hw123_2)).trans hw123_2)⟩ (fun hHeld => ?_)
        clear hK K
        refine nm 15 ?_
        refine pu 6 16 (bm 35 127) ?_
        refine pu 7 17 (bm 35 255) ?_
        refine pu 8 18 (bm 35 511) ?_
        refine pu 9 19 (bm 35 1023) ?_
        refine pu 10 20 (bm 35 2047) ?_
        refine pu 11 21 (bm 35 4095) ?_
        refine tk 12 22 (bm 35 8191) ?_
        refine on 13 (some 23) (bm 35 16383) (fun K hK => ?_)
        refine gs Tryz.func24 #[.int .i64 ((rd_T34 l0 x3_1).f1), .int .i64 0, .int .i64 99] ?_
        with_reducible refine (spec_l1In.calls ((rd_T34 l0 x3_1).f1) 0 99 true _ A6.out).mono ?_
        rintro e w' ⟨rfl, ⟨nd, rfl⟩⟩
        refine ⟨_, rfl, ?_⟩
        refine hK.out _ _ ⟨((HB.out.cell (World.block_lt_of_cell? w _ hw118_0)).trans hw118_0), ((HB.out.cell (World.block_lt_of_cell? w _ hw118_1)).trans hw118_1), ((HB.out.cell (World.block_lt_of_cell? w _ hw118_2)).trans hw118_2), ((HB.out.cell (World.block_lt_of_cell? w _ hw120_0)).trans hw120_0), ((HB.out.cell (World.block_lt_of_cell? w _ hw120_1)).trans hw120_1), ((HB.out.cell (World.block_lt_of_cell? w _ hw120_2)).trans hw120_2), ((HB.out.cell (World.block_lt_of_cell? w _ hw122_0)).trans hw122_0), ((HB.out.cell (World.block_lt_of_cell? w _ hw122_1)).trans hw122_1), ((HB.out.cell (World.block_lt_of_cell? w _ hw122_2)).trans hw122_2), ((HB.out.cell (World.block_lt_of_cell? w _ hw123_0)).trans hw123_0), ((HB.out.cell (World.block_lt_of_cell? w _ hw123_1)).trans hw123_1), ((HB.out.cell (World.block_lt_of_cell? w _ hw123_2)).trans hw123_2)⟩ (fun hHeld => ?_)
        clear hK K
        refine nm 23 ?_
        refine pu 14 24 (bm 35 32767) ?_
        refine pu 15 25 (bm 35 65535) ?_
        refine pu 16 26 (bm 35 131071) ?_
        refine pu 17 27 (bm 35 262143) ?_
        refine pu 18 28 (bm 35 524287) ?_
        refine pu 19 29 (bm 35 1048575) ?_
        refine pu 20 30 (bm 35 2097151) ?_
        refine pu 21 31 (bm 35 4194303) ?_
        refine pu 22 32 (bm 35 8388607) ?_
        refine pu 23 33 (bm 35 16777215) ?_
        refine pu 24 34 (bm 35 33554431) ?_
        refine pu 26 36 (bm 35 100663295) ?_
        refine pu 27 37 (bm 35 234881023) ?_
        refine pu 28 38 (bm 35 503316479) ?_
        refine pu 29 39 (bm 35 1040187391) ?_
        refine tk 25 35 (bm 35 1073741823) ?_
        refine tk 30 40 (bm 35 2147483647) ?_
        refine on 31 (some 41) (bm 35 4294967295) (fun K hK => ?_)
        refine goes_ Tryz.func48 (by kernel_rfl) rfl #[.agg #[.int .i64 ((rd_T34 l0 (ji9)).f0.f0), .int .i64 ((rd_T34 l0 (ji9)).f0.f1)], .agg #[.int .i64 ((rd_T34 l0 x3_1).f0.f0), .int .i64 ((rd_T34 l0 x3_1).f0.f1)]] (by rfl) rfl rfl (by (try simp only [List.map_toArray, List.map_cons, List.map_nil]); first | done | (simp only [hji9]; rfl) | rfl | (simp only [List.length_drop, List.length_take]; rfl)) ?_
        with_reducible refine (spec_l3Cmp.calls ((rd_T34 l0 (ji9)).f0.f0) ((rd_T34 l0 (ji9)).f0.f1) ((rd_T34 l0 x3_1).f0.f0) ((rd_T34 l0 x3_1).f0.f1) t124 _ A12.out).mono ?_
        rintro e w16 ⟨rfl, hb⟩
        refine ⟨_, rfl, ?_⟩
        replace HB := Aside0.mk (below_step zz3 hb)
        (try clear hb)
        (try clear hb2)
        (try clear hk)
        (try clear hi)
        refine hK.out _ _ ⟨((HB.out.cell (World.block_lt_of_cell? w _ hw118_0)).trans hw118_0), ((HB.out.cell (World.block_lt_of_cell? w _ hw118_1)).trans hw118_1), ((HB.out.cell (World.block_lt_of_cell? w _ hw118_2)).trans hw118_2), ((HB.out.cell (World.block_lt_of_cell? w _ hw120_0)).trans hw120_0), ((HB.out.cell (World.block_lt_of_cell? w _ hw120_1)).trans hw120_1), ((HB.out.cell (World.block_lt_of_cell? w _ hw120_2)).trans hw120_2), ((HB.out.cell (World.block_lt_of_cell? w _ hw122_0)).trans hw122_0), ((HB.out.cell (World.block_lt_of_cell? w _ hw122_1)).trans hw122_1), ((HB.out.cell (World.block_lt_of_cell? w _ hw122_2)).trans hw122_2), ((HB.out.cell (World.block_lt_of_cell? w _ hw123_0)).trans hw123_0), ((HB.out.cell (World.block_lt_of_cell? w _ hw123_1)).trans hw123_1), ((HB.out.cell (World.block_lt_of_cell? w _ hw123_2)).trans hw123_2)⟩ (fun hHeld => ?_)
        clear hK K
        refine nm 41 ?_
        refine pu 32 42 (bm 35 8589934591) ?_
        refine pu 33 43 (bm 35 17179869183) ?_
        refine pu 34 44 (bm 35 34359738367) ?_
        refine done_ (done_of HT_.out (by kernel_rfl)) ?_
        try go_wp2
        go_ret
        exact ⟨by first | rfl | (simp [errW_none, errW_some] <;> rfl) | (simp only [← hji9]; first | rfl | (simp [errW_none, errW_some] <;> rfl)) | (simp [*, errW_none, errW_some] <;> rfl), zz3⟩
       ·have H' := Aside0.mk H
        clear H
        try go_wp2
        replace HB := Aside0.mk (below_drew1 HB.out)
        obtain ⟨⟨ad118, e118, hx118_0, hx118_1, hx118_2⟩, p118, q118⟩ := wi (at_T34 HR0.out x3_1)
        have hw118_2 := hx118_2
        have hw118_1 := hx118_1
        have hw118_0 := hx118_0
        cases e118
        replace hx118_0 := (HB.out.cell (World.block_lt_of_cell? w _ hx118_0)).trans hx118_0
        replace hx118_1 := (HB.out.cell (World.block_lt_of_cell? w _ hx118_1)).trans hx118_1
        replace hx118_2 := (HB.out.cell (World.block_lt_of_cell? w _ hx118_2)).trans hx118_2
        obtain ⟨⟨ad120, e120, hx120_0, hx120_1, hx120_2⟩, p120, q120⟩ := wi (at_T34 HR0.out x3_1)
        have hw120_2 := hx120_2
        have hw120_1 := hx120_1
        have hw120_0 := hx120_0
        obtain rfl : ad118 = ad120 := (by injection e120)
        replace hx120_0 := (HB.out.cell (World.block_lt_of_cell? w _ hx120_0)).trans hx120_0
        replace hx120_1 := (HB.out.cell (World.block_lt_of_cell? w _ hx120_1)).trans hx120_1
        replace hx120_2 := (HB.out.cell (World.block_lt_of_cell? w _ hx120_2)).trans hx120_2
        obtain ⟨⟨ad122, e122, hx122_0, hx122_1, hx122_2⟩, p122, q122⟩ := wi (at_T34 HR0.out (ji9))
        have hw122_2 := hx122_2
        have hw122_1 := hx122_1
        have hw122_0 := hx122_0
        obtain rfl : ad118 = ad122 := (by injection e122)
        replace hx122_0 := (HB.out.cell (World.block_lt_of_cell? w _ hx122_0)).trans hx122_0
        replace hx122_1 := (HB.out.cell (World.block_lt_of_cell? w _ hx122_1)).trans hx122_1
        replace hx122_2 := (HB.out.cell (World.block_lt_of_cell? w _ hx122_2)).trans hx122_2
        obtain ⟨⟨ad123, e123, hx123_0, hx123_1, hx123_2⟩, p123, q123⟩ := wi (at_T34 HR0.out x3_1)
        have hw123_2 := hx123_2
        have hw123_1 := hx123_1
        have hw123_0 := hx123_0
        obtain rfl : ad118 = ad123 := (by injection e123)
        replace hx123_0 := (HB.out.cell (World.block_lt_of_cell? w _ hx123_0)).trans hx123_0
        replace hx123_1 := (HB.out.cell (World.block_lt_of_cell? w _ hx123_1)).trans hx123_1
        replace hx123_2 := (HB.out.cell (World.block_lt_of_cell? w _ hx123_2)).trans hx123_2
        refine start_ (n := 35) (S := fun w' => w'.cell? (ad118.add ((x3_1).toNat * 3)) = some (.int .i64 ((rd_T34 l0 x3_1).f0.f0)) ∧ w'.cell? ⟨(ad118.add ((x3_1).toNat * 3)).block, (ad118.add ((x3_1).toNat * 3)).off + 1, none⟩ = some (.int .i64 ((rd_T34 l0 x3_1).f0.f1)) ∧ w'.cell? ⟨(ad118.add ((x3_1).toNat * 3)).block, (ad118.add ((x3_1).toNat * 3)).off + 2, none⟩ = some (.int .i64 ((rd_T34 l0 x3_1).f1)) ∧ w'.cell? (ad118.add ((x3_1).toNat * 3)) = some (.int .i64 ((rd_T34 l0 x3_1).f0.f0)) ∧ w'.cell? ⟨(ad118.add ((x3_1).toNat * 3)).block, (ad118.add ((x3_1).toNat * 3)).off + 1, none⟩ = some (.int .i64 ((rd_T34 l0 x3_1).f0.f1)) ∧ w'.cell? ⟨(ad118.add ((x3_1).toNat * 3)).block, (ad118.add ((x3_1).toNat * 3)).off + 2, none⟩ = some (.int .i64 ((rd_T34 l0 x3_1).f1)) ∧ w'.cell? (ad118.add (((ji9)).toNat * 3)) = some (.int .i64 ((rd_T34 l0 (ji9)).f0.f0)) ∧ w'.cell? ⟨(ad118.add (((ji9)).toNat * 3)).block, (ad118.add (((ji9)).toNat * 3)).off + 1, none⟩ = some (.int .i64 ((rd_T34 l0 (ji9)).f0.f1)) ∧ w'.cell? ⟨(ad118.add (((ji9)).toNat * 3)).block, (ad118.add (((ji9)).toNat * 3)).off + 2, none⟩ = some (.int .i64 ((rd_T34 l0 (ji9)).f1)) ∧ w'.cell? (ad118.add ((x3_1).toNat * 3)) = some (.int .i64 ((rd_T34 l0 x3_1).f0.f0)) ∧ w'.cell? ⟨(ad118.add ((x3_1).toNat * 3)).block, (ad118.add ((x3_1).toNat * 3)).off + 1, none⟩ = some (.int .i64 ((rd_T34 l0 x3_1).f0.f1)) ∧ w'.cell? ⟨(ad118.add ((x3_1).toNat * 3)).block, (ad118.add ((x3_1).toNat * 3)).off + 2, none⟩ = some (.int .i64 ((rd_T34 l0 x3_1).f1))) (ds := []) (bm 35 0) (by kernel_rfl) rfl rfl ⟨((HB.out.cell (World.block_lt_of_cell? w _ hw118_0)).trans hw118_0), ((HB.out.cell (World.block_lt_of_cell? w _ hw118_1)).trans hw118_1), ((HB.out.cell (World.block_lt_of_cell? w _ hw118_2)).trans hw118_2), ((HB.out.cell (World.block_lt_of_cell? w _ hw120_0)).trans hw120_0), ((HB.out.cell (World.block_lt_of_cell? w _ hw120_1)).trans hw120_1), ((HB.out.cell (World.block_lt_of_cell? w _ hw120_2)).trans hw120_2), ((HB.out.cell (World.block_lt_of_cell? w _ hw122_0)).trans hw122_0), ((HB.out.cell (World.block_lt_of_cell? w _ hw122_1)).trans hw122_1), ((HB.out.cell (World.block_lt_of_cell? w _ hw122_2)).trans hw122_2), ((HB.out.cell (World.block_lt_of_cell? w _ hw123_0)).trans hw123_0), ((HB.out.cell (World.block_lt_of_cell? w _ hw123_1)).trans hw123_1), ((HB.out.cell (World.block_lt_of_cell? w _ hw123_2)).trans hw123_2)⟩ (fun hHeld => ?_); refine with_tabW spec_WaysOk.tab4 spec_WaysOk.bits4 (fun HT_ HW_ => ?_)
        generalize wr.drew = w17 at HB hx118_0 hx118_1 hx118_2 hx120_0 hx120_1 hx120_2 hx122_0 hx122_1 hx122_2 hx123_0 hx123_1 hx123_2 hHeld ⊢
        refine pu 0 10 (bm 35 1) ?_
        refine pu 1 11 (bm 35 3) ?_
        refine pu 2 12 (bm 35 7) ?_
        refine pu 3 13 (bm 35 15) ?_
        refine tk 4 14 (bm 35 31) ?_
        refine on 5 (some 15) (bm 35 63) (fun K hK => ?_)
        refine gs Tryz.func47 #[.agg #[.int .i64 ((rd_T34 l0 x3_1).f0.f0), .int .i64 ((rd_T34 l0 x3_1).f0.f1)]] ?_
        with_reducible refine (spec_BlockOk.calls k1 ((rd_T34 l0 x3_1).f0.f0) ((rd_T34 l0 x3_1).f0.f1) true _ A4.out).mono ?_
        rintro e w18 ⟨rfl, hb⟩
        refine ⟨_, rfl, ?_⟩
        replace HB := Aside0.mk (below_step zz3 hb)
        (try clear hb)
        (try clear hb2)
        (try clear hk)
        (try clear hi)
        refine hK.out _ _ ⟨((HB.out.cell (World.block_lt_of_cell? w _ hw118_0)).trans hw118_0), ((HB.out.cell (World.block_lt_of_cell? w _ hw118_1)).trans hw118_1), ((HB.out.cell (World.block_lt_of_cell? w _ hw118_2)).trans hw118_2), ((HB.out.cell (World.block_lt_of_cell? w _ hw120_0)).trans hw120_0), ((HB.out.cell (World.block_lt_of_cell? w _ hw120_1)).trans hw120_1), ((HB.out.cell (World.block_lt_of_cell? w _ hw120_2)).trans hw120_2), ((HB.out.cell (World.block_lt_of_cell? w _ hw122_0)).trans hw122_0), ((HB.out.cell (World.block_lt_of_cell? w _ hw122_1)).trans hw122_1), ((HB.out.cell (World.block_lt_of_cell? w _ hw122_2)).trans hw122_2), ((HB.out.cell (World.block_lt_of_cell? w _ hw123_0)).trans hw123_0), ((HB.out.cell (World.block_lt_of_cell? w _ hw123_1)).trans hw123_1), ((HB.out.cell (World.block_lt_of_cell? w _ hw123_2)).trans hw123_2)⟩ (fun hHeld => ?_)
        clear hK K
        refine nm 15 ?_
        refine pu 6 16 (bm 35 127) ?_
        refine pu 7 17 (bm 35 255) ?_
        refine pu 8 18 (bm 35 511) ?_
        refine pu 9 19 (bm 35 1023) ?_
        refine pu 10 20 (bm 35 2047) ?_
        refine pu 11 21 (bm 35 4095) ?_
        refine tk 12 22 (bm 35 8191) ?_
        refine on 13 (some 23) (bm 35 16383) (fun K hK => ?_)
        refine gs Tryz.func24 #[.int .i64 ((rd_T34 l0 x3_1).f1), .int .i64 0, .int .i64 99] ?_
        with_reducible refine (spec_l1In.calls ((rd_T34 l0 x3_1).f1) 0 99 true _ A6.out).mono ?_
        rintro e w' ⟨rfl, ⟨nd, rfl⟩⟩
        refine ⟨_, rfl, ?_⟩
        refine hK.out _ _ ⟨((HB.out.cell (World.block_lt_of_cell? w _ hw118_0)).trans hw118_0), ((HB.out.cell (World.block_lt_of_cell? w _ hw118_1)).trans hw118_1), ((HB.out.cell (World.block_lt_of_cell? w _ hw118_2)).trans hw118_2), ((HB.out.cell (World.block_lt_of_cell? w _ hw120_0)).trans hw120_0), ((HB.out.cell (World.block_lt_of_cell? w _ hw120_1)).trans hw120_1), ((HB.out.cell (World.block_lt_of_cell? w _ hw120_2)).trans hw120_2), ((HB.out.cell (World.block_lt_of_cell? w _ hw122_0)).trans hw122_0), ((HB.out.cell (World.block_lt_of_cell? w _ hw122_1)).trans hw122_1), ((HB.out.cell (World.block_lt_of_cell? w _ hw122_2)).trans hw122_2), ((HB.out.cell (World.block_lt_of_cell? w _ hw123_0)).trans hw123_0), ((HB.out.cell (World.block_lt_of_cell? w _ hw123_1)).trans hw123_1), ((HB.out.cell (World.block_lt_of_cell? w _ hw123_2)).trans hw123_2)⟩ (fun hHeld => ?_)
        clear hK K
        refine nm 23 ?_
        refine pu 14 24 (bm 35 32767) ?_
        refine pu 15 25 (bm 35 65535) ?_
        refine pu 16 26 (bm 35 131071) ?_
        refine pu 17 27 (bm 35 262143) ?_
        refine pu 18 28 (bm 35 524287) ?_
        refine pu 19 29 (bm 35 1048575) ?_
        refine pu 20 30 (bm 35 2097151) ?_
        refine pu 21 31 (bm 35 4194303) ?_
        refine pu 22 32 (bm 35 8388607) ?_
        refine pu 23 33 (bm 35 16777215) ?_
        refine pu 24 34 (bm 35 33554431) ?_
        refine pu 26 36 (bm 35 100663295) ?_
        refine pu 27 37 (bm 35 234881023) ?_
        refine pu 28 38 (bm 35 503316479) ?_
        refine pu 29 39 (bm 35 1040187391) ?_
        refine tk 25 35 (bm 35 1073741823) ?_
        refine tk 30 40 (bm 35 2147483647) ?_
        refine on 31 (some 41) (bm 35 4294967295) (fun K hK => ?_)
        refine goes_ Tryz.func48 (by kernel_rfl) rfl #[.agg #[.int .i64 ((rd_T34 l0 (ji9)).f0.f0), .int .i64 ((rd_T34 l0 (ji9)).f0.f1)], .agg #[.int .i64 ((rd_T34 l0 x3_1).f0.f0), .int .i64 ((rd_T34 l0 x3_1).f0.f1)]] (by rfl) rfl rfl (by (try simp only [List.map_toArray, List.map_cons, List.map_nil]); first | done | (simp only [hji9]; rfl) | rfl | (simp only [List.length_drop, List.length_take]; rfl)) ?_
        with_reducible refine (spec_l3Cmp.calls ((rd_T34 l0 (ji9)).f0.f0) ((rd_T34 l0 (ji9)).f0.f1) ((rd_T34 l0 x3_1).f0.f0) ((rd_T34 l0 x3_1).f0.f1) t124 _ A12.out).mono ?_
        rintro e w19 ⟨rfl, hb⟩
        refine ⟨_, rfl, ?_⟩
        replace HB := Aside0.mk (below_step zz3 hb)
        (try clear hb)
        (try clear hb2)
        (try clear hk)
        (try clear hi)
        refine hK.out _ _ ⟨((HB.out.cell (World.block_lt_of_cell? w _ hw118_0)).trans hw118_0), ((HB.out.cell (World.block_lt_of_cell? w _ hw118_1)).trans hw118_1), ((HB.out.cell (World.block_lt_of_cell? w _ hw118_2)).trans hw118_2), ((HB.out.cell (World.block_lt_of_cell? w _ hw120_0)).trans hw120_0), ((HB.out.cell (World.block_lt_of_cell? w _ hw120_1)).trans hw120_1), ((HB.out.cell (World.block_lt_of_cell? w _ hw120_2)).trans hw120_2), ((HB.out.cell (World.block_lt_of_cell? w _ hw122_0)).trans hw122_0), ((HB.out.cell (World.block_lt_of_cell? w _ hw122_1)).trans hw122_1), ((HB.out.cell (World.block_lt_of_cell? w _ hw122_2)).trans hw122_2), ((HB.out.cell (World.block_lt_of_cell? w _ hw123_0)).trans hw123_0), ((HB.out.cell (World.block_lt_of_cell? w _ hw123_1)).trans hw123_1), ((HB.out.cell (World.block_lt_of_cell? w _ hw123_2)).trans hw123_2)⟩ (fun hHeld => ?_)
        clear hK K
        refine nm 41 ?_
        refine pu 32 42 (bm 35 8589934591) ?_
        refine pu 33 43 (bm 35 17179869183) ?_
        refine pu 34 44 (bm 35 34359738367) ?_
        refine done_ (done_of HT_.out (by kernel_rfl)) ?_
        try go_wp2
        go_roundg k1
        case measure => have := HK1.out; omega
        case rel => exact ⟨(wrap64 (x3_1 + 1)), zz8, H', ⟨zz15 HK1⟩, ⟨zz3⟩⟩
      ·have H' := Aside0.mk H
       clear H
       try go_wp2
       replace HB := Aside0.mk (below_drew1 HB.out)
       obtain ⟨⟨ad118, e118, hx118_0, hx118_1, hx118_2⟩, p118, q118⟩ := wi (at_T34 HR0.out x3_1)
       have hw118_2 := hx118_2
       have hw118_1 := hx118_1
       have hw118_0 := hx118_0
       cases e118
       replace hx118_0 := (HB.out.cell (World.block_lt_of_cell? w _ hx118_0)).trans hx118_0
       replace hx118_1 := (HB.out.cell (World.block_lt_of_cell? w _ hx118_1)).trans hx118_1
       replace hx118_2 := (HB.out.cell (World.block_lt_of_cell? w _ hx118_2)).trans hx118_2
       obtain ⟨⟨ad120, e120, hx120_0, hx120_1, hx120_2⟩, p120, q120⟩ := wi (at_T34 HR0.out x3_1)
       have hw120_2 := hx120_2
       have hw120_1 := hx120_1
       have hw120_0 := hx120_0
       obtain rfl : ad118 = ad120 := (by injection e120)
       replace hx120_0 := (HB.out.cell (World.block_lt_of_cell? w _ hx120_0)).trans hx120_0
       replace hx120_1 := (HB.out.cell (World.block_lt_of_cell? w _ hx120_1)).trans hx120_1
       replace hx120_2 := (HB.out.cell (World.block_lt_of_cell? w _ hx120_2)).trans hx120_2
       refine start_ (n := 35) (S := fun w' => w'.cell? (ad118.add ((x3_1).toNat * 3)) = some (.int .i64 ((rd_T34 l0 x3_1).f0.f0)) ∧ w'.cell? ⟨(ad118.add ((x3_1).toNat * 3)).block, (ad118.add ((x3_1).toNat * 3)).off + 1, none⟩ = some (.int .i64 ((rd_T34 l0 x3_1).f0.f1)) ∧ w'.cell? ⟨(ad118.add ((x3_1).toNat * 3)).block, (ad118.add ((x3_1).toNat * 3)).off + 2, none⟩ = some (.int .i64 ((rd_T34 l0 x3_1).f1)) ∧ w'.cell? (ad118.add ((x3_1).toNat * 3)) = some (.int .i64 ((rd_T34 l0 x3_1).f0.f0)) ∧ w'.cell? ⟨(ad118.add ((x3_1).toNat * 3)).block, (ad118.add ((x3_1).toNat * 3)).off + 1, none⟩ = some (.int .i64 ((rd_T34 l0 x3_1).f0.f1)) ∧ w'.cell? ⟨(ad118.add ((x3_1).toNat * 3)).block, (ad118.add ((x3_1).toNat * 3)).off + 2, none⟩ = some (.int .i64 ((rd_T34 l0 x3_1).f1))) (ds := []) (bm 35 0) (by kernel_rfl) rfl rfl ⟨((HB.out.cell (World.block_lt_of_cell? w _ hw118_0)).trans hw118_0), ((HB.out.cell (World.block_lt_of_cell? w _ hw118_1)).trans hw118_1), ((HB.out.cell (World.block_lt_of_cell? w _ hw118_2)).trans hw118_2), ((HB.out.cell (World.block_lt_of_cell? w _ hw120_0)).trans hw120_0), ((HB.out.cell (World.block_lt_of_cell? w _ hw120_1)).trans hw120_1), ((HB.out.cell (World.block_lt_of_cell? w _ hw120_2)).trans hw120_2)⟩ (fun hHeld => ?_); refine with_tabW spec_WaysOk.tab4 spec_WaysOk.bits4 (fun HT_ HW_ => ?_)
       generalize wr.drew = w20 at HB hx118_0 hx118_1 hx118_2 hx120_0 hx120_1 hx120_2 hHeld ⊢
       refine pu 0 10 (bm 35 1) ?_
       refine pu 1 11 (bm 35 3) ?_
       refine pu 2 12 (bm 35 7) ?_
       refine pu 3 13 (bm 35 15) ?_
       refine tk 4 14 (bm 35 31) ?_
       refine on 5 (some 15) (bm 35 63) (fun K hK => ?_)
       refine gs Tryz.func47 #[.agg #[.int .i64 ((rd_T34 l0 x3_1).f0.f0), .int .i64 ((rd_T34 l0 x3_1).f0.f1)]] ?_
       with_reducible refine (spec_BlockOk.calls k1 ((rd_T34 l0 x3_1).f0.f0) ((rd_T34 l0 x3_1).f0.f1) true _ A4.out).mono ?_
       rintro e w21 ⟨rfl, hb⟩
       refine ⟨_, rfl, ?_⟩
       replace HB := Aside0.mk (below_step zz3 hb)
       (try clear hb)
       (try clear hb2)
       (try clear hk)
       (try clear hi)
       refine hK.out _ _ ⟨((HB.out.cell (World.block_lt_of_cell? w _ hw118_0)).trans hw118_0), ((HB.out.cell (World.block_lt_of_cell? w _ hw118_1)).trans hw118_1), ((HB.out.cell (World.block_lt_of_cell? w _ hw118_2)).trans hw118_2), ((HB.out.cell (World.block_lt_of_cell? w _ hw120_0)).trans hw120_0), ((HB.out.cell (World.block_lt_of_cell? w _ hw120_1)).trans hw120_1), ((HB.out.cell (World.block_lt_of_cell? w _ hw120_2)).trans hw120_2)⟩ (fun hHeld => ?_)
       clear hK K
       refine nm 15 ?_
       refine pu 6 16 (bm 35 127) ?_
       refine pu 7 17 (bm 35 255) ?_
       refine pu 8 18 (bm 35 511) ?_
       refine pu 9 19 (bm 35 1023) ?_
       refine pu 10 20 (bm 35 2047) ?_
       refine pu 11 21 (bm 35 4095) ?_
       refine tk 12 22 (bm 35 8191) ?_
       refine on 13 (some 23) (bm 35 16383) (fun K hK => ?_)
       refine gs Tryz.func24 #[.int .i64 ((rd_T34 l0 x3_1).f1), .int .i64 0, .int .i64 99] ?_
       with_reducible refine (spec_l1In.calls ((rd_T34 l0 x3_1).f1) 0 99 true _ A6.out).mono ?_
       rintro e w' ⟨rfl, ⟨nd, rfl⟩⟩
       refine ⟨_, rfl, ?_⟩
       refine hK.out _ _ ⟨((HB.out.cell (World.block_lt_of_cell? w _ hw118_0)).trans hw118_0), ((HB.out.cell (World.block_lt_of_cell? w _ hw118_1)).trans hw118_1), ((HB.out.cell (World.block_lt_of_cell? w _ hw118_2)).trans hw118_2), ((HB.out.cell (World.block_lt_of_cell? w _ hw120_0)).trans hw120_0), ((HB.out.cell (World.block_lt_of_cell? w _ hw120_1)).trans hw120_1), ((HB.out.cell (World.block_lt_of_cell? w _ hw120_2)).trans hw120_2)⟩ (fun hHeld => ?_)
       clear hK K
       refine nm 23 ?_
       refine pu 14 24 (bm 35 32767) ?_
       refine pu 15 25 (bm 35 65535) ?_
       refine pu 16 26 (bm 35 131071) ?_
       refine pu 17 27 (bm 35 262143) ?_
       refine pu 18 28 (bm 35 524287) ?_
       refine pu 19 29 (bm 35 1048575) ?_
       refine po 20 30 (bm 35 2097151) ?_
       refine po 21 31 (bm 35 4194303) ?_
       refine po 22 32 (bm 35 8388607) ?_
       refine po 23 33 (bm 35 16777215) ?_
       refine po 24 34 (bm 35 33554431) ?_
       refine po 25 35 (bm 35 67108863) ?_
       refine po 26 36 (bm 35 134217727) ?_
       refine po 27 37 (bm 35 268435455) ?_
       refine po 28 38 (bm 35 536870911) ?_
       refine po 29 39 (bm 35 1073741823) ?_
       refine po 30 40 (bm 35 2147483647) ?_
       refine po 31 41 (bm 35 4294967295) ?_
       refine po 32 42 (bm 35 8589934591) ?_
       refine pu 33 43 (bm 35 17179869183) ?_
       refine pu 34 44 (bm 35 34359738367) ?_
       refine done_ (done_of HT_.out (by kernel_rfl)) ?_
       try go_wp2
       go_roundg k1
       case measure => have := HK1.out; omega
       case rel => exact ⟨(wrap64 (x3_1 + 1)), zz8, H', ⟨zz15 HK1⟩, ⟨zz3⟩⟩
     ·replace c7 := Bool.eq_false_iff.mpr c7
      subst c7
      have H1 : (some false) = some r := by rw [if_neg (show ¬ (false = true) by decide)] at H; exact H
      clear H
      have H := H1
      clear H1
      obtain rfl := Option.some.inj H
      try go_wp2
      replace HB := Aside0.mk (below_drew1 HB.out)
      obtain ⟨⟨ad118, e118, hx118_0, hx118_1, hx118_2⟩, p118, q118⟩ := wi (at_T34 HR0.out x3_1)
      have hw118_2 := hx118_2
      have hw118_1 := hx118_1
      have hw118_0 := hx118_0
      cases e118
      replace hx118_0 := (HB.out.cell (World.block_lt_of_cell? w _ hx118_0)).trans hx118_0
      replace hx118_1 := (HB.out.cell (World.block_lt_of_cell? w _ hx118_1)).trans hx118_1
      replace hx118_2 := (HB.out.cell (World.block_lt_of_cell? w _ hx118_2)).trans hx118_2
      obtain ⟨⟨ad120, e120, hx120_0, hx120_1, hx120_2⟩, p120, q120⟩ := wi (at_T34 HR0.out x3_1)
      have hw120_2 := hx120_2
      have hw120_1 := hx120_1
      have hw120_0 := hx120_0
      obtain rfl : ad118 = ad120 := (by injection e120)
      replace hx120_0 := (HB.out.cell (World.block_lt_of_cell? w _ hx120_0)).trans hx120_0
      replace hx120_1 := (HB.out.cell (World.block_lt_of_cell? w _ hx120_1)).trans hx120_1
      replace hx120_2 := (HB.out.cell (World.block_lt_of_cell? w _ hx120_2)).trans hx120_2
      refine start_ (n := 35) (S := fun w' => w'.cell? (ad118.add ((x3_1).toNat * 3)) = some (.int .i64 ((rd_T34 l0 x3_1).f0.f0)) ∧ w'.cell? ⟨(ad118.add ((x3_1).toNat * 3)).block, (ad118.add ((x3_1).toNat * 3)).off + 1, none⟩ = some (.int .i64 ((rd_T34 l0 x3_1).f0.f1)) ∧ w'.cell? ⟨(ad118.add ((x3_1).toNat * 3)).block, (ad118.add ((x3_1).toNat * 3)).off + 2, none⟩ = some (.int .i64 ((rd_T34 l0 x3_1).f1)) ∧ w'.cell? (ad118.add ((x3_1).toNat * 3)) = some (.int .i64 ((rd_T34 l0 x3_1).f0.f0)) ∧ w'.cell? ⟨(ad118.add ((x3_1).toNat * 3)).block, (ad118.add ((x3_1).toNat * 3)).off + 1, none⟩ = some (.int .i64 ((rd_T34 l0 x3_1).f0.f1)) ∧ w'.cell? ⟨(ad118.add ((x3_1).toNat * 3)).block, (ad118.add ((x3_1).toNat * 3)).off + 2, none⟩ = some (.int .i64 ((rd_T34 l0 x3_1).f1))) (ds := []) (bm 35 0) (by kernel_rfl) rfl rfl ⟨((HB.out.cell (World.block_lt_of_cell? w _ hw118_0)).trans hw118_0), ((HB.out.cell (World.block_lt_of_cell? w _ hw118_1)).trans hw118_1), ((HB.out.cell (World.block_lt_of_cell? w _ hw118_2)).trans hw118_2), ((HB.out.cell (World.block_lt_of_cell? w _ hw120_0)).trans hw120_0), ((HB.out.cell (World.block_lt_of_cell? w _ hw120_1)).trans hw120_1), ((HB.out.cell (World.block_lt_of_cell? w _ hw120_2)).trans hw120_2)⟩ (fun hHeld => ?_); refine with_tabW spec_WaysOk.tab4 spec_WaysOk.bits4 (fun HT_ HW_ => ?_)
      generalize wr.drew = w22 at HB hx118_0 hx118_1 hx118_2 hx120_0 hx120_1 hx120_2 hHeld ⊢
      refine pu 0 10 (bm 35 1) ?_
      refine pu 1 11 (bm 35 3) ?_
      refine pu 2 12 (bm 35 7) ?_
      refine pu 3 13 (bm 35 15) ?_
      refine tk 4 14 (bm 35 31) ?_
      refine on 5 (some 15) (bm 35 63) (fun K hK => ?_)
      refine gs Tryz.func47 #[.agg #[.int .i64 ((rd_T34 l0 x3_1).f0.f0), .int .i64 ((rd_T34 l0 x3_1).f0.f1)]] ?_
      with_reducible refine (spec_BlockOk.calls k1 ((rd_T34 l0 x3_1).f0.f0) ((rd_T34 l0 x3_1).f0.f1) true _ A4.out).mono ?_
      rintro e w23 ⟨rfl, hb⟩
      refine ⟨_, rfl, ?_⟩
      replace HB := Aside0.mk (below_step zz3 hb)
      (try clear hb)
      (try clear hb2)
      (try clear hk)
      (try clear hi)
      refine hK.out _ _ ⟨((HB.out.cell (World.block_lt_of_cell? w _ hw118_0)).trans hw118_0), ((HB.out.cell (World.block_lt_of_cell? w _ hw118_1)).trans hw118_1), ((HB.out.cell (World.block_lt_of_cell? w _ hw118_2)).trans hw118_2), ((HB.out.cell (World.block_lt_of_cell? w _ hw120_0)).trans hw120_0), ((HB.out.cell (World.block_lt_of_cell? w _ hw120_1)).trans hw120_1), ((HB.out.cell (World.block_lt_of_cell? w _ hw120_2)).trans hw120_2)⟩ (fun hHeld => ?_)
      clear hK K
      refine nm 15 ?_
      refine pu 6 16 (bm 35 127) ?_
      refine pu 7 17 (bm 35 255) ?_
      refine pu 8 18 (bm 35 511) ?_
      refine pu 9 19 (bm 35 1023) ?_
      refine pu 10 20 (bm 35 2047) ?_
      refine pu 11 21 (bm 35 4095) ?_
      refine tk 12 22 (bm 35 8191) ?_
      refine on 13 (some 23) (bm 35 16383) (fun K hK => ?_)
      refine gs Tryz.func24 #[.int .i64 ((rd_T34 l0 x3_1).f1), .int .i64 0, .int .i64 99] ?_
      with_reducible refine (spec_l1In.calls ((rd_T34 l0 x3_1).f1) 0 99 false _ A6.out).mono ?_
      rintro e w' ⟨rfl, ⟨nd, rfl⟩⟩
      refine ⟨_, rfl, ?_⟩
      refine hK.out _ _ ⟨((HB.out.cell (World.block_lt_of_cell? w _ hw118_0)).trans hw118_0), ((HB.out.cell (World.block_lt_of_cell? w _ hw118_1)).trans hw118_1), ((HB.out.cell (World.block_lt_of_cell? w _ hw118_2)).trans hw118_2), ((HB.out.cell (World.block_lt_of_cell? w _ hw120_0)).trans hw120_0), ((HB.out.cell (World.block_lt_of_cell? w _ hw120_1)).trans hw120_1), ((HB.out.cell (World.block_lt_of_cell? w _ hw120_2)).trans hw120_2)⟩ (fun hHeld => ?_)
      clear hK K
      refine nm 23 ?_
      refine pu 14 24 (bm 35 32767) ?_
      refine pu 15 25 (bm 35 65535) ?_
      refine pu 16 26 (bm 35 131071) ?_
      refine po 17 27 (bm 35 262143) ?_
      refine po 18 28 (bm 35 524287) ?_
      refine po 19 29 (bm 35 1048575) ?_
      refine po 20 30 (bm 35 2097151) ?_
      refine po 21 31 (bm 35 4194303) ?_
      refine po 22 32 (bm 35 8388607) ?_
      refine po 23 33 (bm 35 16777215) ?_
      refine po 24 34 (bm 35 33554431) ?_
      refine po 25 35 (bm 35 67108863) ?_
      refine po 26 36 (bm 35 134217727) ?_
      refine po 27 37 (bm 35 268435455) ?_
      refine po 28 38 (bm 35 536870911) ?_
      refine po 29 39 (bm 35 1073741823) ?_
      refine po 30 40 (bm 35 2147483647) ?_
      refine po 31 41 (bm 35 4294967295) ?_
      refine po 32 42 (bm 35 8589934591) ?_
      refine po 33 43 (bm 35 17179869183) ?_
      refine pu 34 44 (bm 35 34359738367) ?_
      refine done_ (done_of HT_.out (by kernel_rfl)) ?_
      try go_wp2
      go_ret
      exact ⟨zz13, zz3⟩
    ·replace c5 := Bool.eq_false_iff.mpr c5
     subst c5
     have H1 : (some false) = some r := by rw [if_neg (show ¬ (false = true) by decide)] at H; exact H
     clear H
     have H := H1
     clear H1
     obtain rfl := Option.some.inj H
     try go_wp2
     replace HB := Aside0.mk (below_drew1 HB.out)
     obtain ⟨⟨ad118, e118, hx118_0, hx118_1, hx118_2⟩, p118, q118⟩ := wi (at_T34 HR0.out x3_1)
     have hw118_2 := hx118_2
     have hw118_1 := hx118_1
     have hw118_0 := hx118_0
     cases e118
     replace hx118_0 := (HB.out.cell (World.block_lt_of_cell? w _ hx118_0)).trans hx118_0
     replace hx118_1 := (HB.out.cell (World.block_lt_of_cell? w _ hx118_1)).trans hx118_1
     replace hx118_2 := (HB.out.cell (World.block_lt_of_cell? w _ hx118_2)).trans hx118_2
     refine start_ (n := 35) (S := fun w' => w'.cell? (ad118.add ((x3_1).toNat * 3)) = some (.int .i64 ((rd_T34 l0 x3_1).f0.f0)) ∧ w'.cell? ⟨(ad118.add ((x3_1).toNat * 3)).block, (ad118.add ((x3_1).toNat * 3)).off + 1, none⟩ = some (.int .i64 ((rd_T34 l0 x3_1).f0.f1)) ∧ w'.cell? ⟨(ad118.add ((x3_1).toNat * 3)).block, (ad118.add ((x3_1).toNat * 3)).off + 2, none⟩ = some (.int .i64 ((rd_T34 l0 x3_1).f1))) (ds := []) (bm 35 0) (by kernel_rfl) rfl rfl ⟨((HB.out.cell (World.block_lt_of_cell? w _ hw118_0)).trans hw118_0), ((HB.out.cell (World.block_lt_of_cell? w _ hw118_1)).trans hw118_1), ((HB.out.cell (World.block_lt_of_cell? w _ hw118_2)).trans hw118_2)⟩ (fun hHeld => ?_); refine with_tabW spec_WaysOk.tab4 spec_WaysOk.bits4 (fun HT_ HW_ => ?_)
     generalize wr.drew = w24 at HB hx118_0 hx118_1 hx118_2 hHeld ⊢
     refine pu 0 10 (bm 35 1) ?_
     refine pu 1 11 (bm 35 3) ?_
     refine pu 2 12 (bm 35 7) ?_
     refine pu 3 13 (bm 35 15) ?_
     refine tk 4 14 (bm 35 31) ?_
     refine on 5 (some 15) (bm 35 63) (fun K hK => ?_)
     refine gs Tryz.func47 #[.agg #[.int .i64 ((rd_T34 l0 x3_1).f0.f0), .int .i64 ((rd_T34 l0 x3_1).f0.f1)]] ?_
     with_reducible refine (spec_BlockOk.calls k1 ((rd_T34 l0 x3_1).f0.f0) ((rd_T34 l0 x3_1).f0.f1) false _ A4.out).mono ?_
     rintro e w25 ⟨rfl, hb⟩
     refine ⟨_, rfl, ?_⟩
     replace HB := Aside0.mk (below_step zz3 hb)
     (try clear hb)
     (try clear hb2)
     (try clear hk)
     (try clear hi)
     refine hK.out _ _ ⟨((HB.out.cell (World.block_lt_of_cell? w _ hw118_0)).trans hw118_0), ((HB.out.cell (World.block_lt_of_cell? w _ hw118_1)).trans hw118_1), ((HB.out.cell (World.block_lt_of_cell? w _ hw118_2)).trans hw118_2)⟩ (fun hHeld => ?_)
     clear hK K
     refine nm 15 ?_
     refine pu 6 16 (bm 35 127) ?_
     refine pu 7 17 (bm 35 255) ?_
     refine po 8 18 (bm 35 511) ?_
     refine po 9 19 (bm 35 1023) ?_
     refine po 10 20 (bm 35 2047) ?_
     refine po 11 21 (bm 35 4095) ?_
     refine po 12 22 (bm 35 8191) ?_
     refine po 13 23 (bm 35 16383) ?_
     refine po 14 24 (bm 35 32767) ?_
     refine pu 15 25 (bm 35 65535) ?_
     refine pu 16 26 (bm 35 131071) ?_
     refine po 17 27 (bm 35 262143) ?_
     refine po 18 28 (bm 35 524287) ?_
     refine po 19 29 (bm 35 1048575) ?_
     refine po 20 30 (bm 35 2097151) ?_
     refine po 21 31 (bm 35 4194303) ?_
     refine po 22 32 (bm 35 8388607) ?_
     refine po 23 33 (bm 35 16777215) ?_
     refine po 24 34 (bm 35 33554431) ?_
     refine po 25 35 (bm 35 67108863) ?_
     refine po 26 36 (bm 35 134217727) ?_
     refine po 27 37 (bm 35 268435455) ?_
     refine po 28 38 (bm 35 536870911) ?_
     refine po 29 39 (bm 35 1073741823) ?_
     refine po 30 40 (bm 35 2147483647) ?_
     refine po 31 41 (bm 35 4294967295) ?_
     refine po 32 42 (bm 35 8589934591) ?_
     refine po 33 43 (bm 35 17179869183) ?_
     refine pu 34 44 (bm 35 34359738367) ?_
     refine done_ (done_of HT_.out (by kernel_rfl)) ?_
     try go_wp2
     go_ret
     exact ⟨zz13, zz3⟩
   ·obtain rfl := Option.some.inj H
    go_wp2
    go_ret
    exact ⟨zz13, zz3⟩
end Go.Proofs.YthkjkmgbdahggaaGreat.PY
