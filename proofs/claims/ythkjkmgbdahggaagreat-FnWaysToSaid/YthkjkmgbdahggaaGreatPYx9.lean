/- A text printed by this session's wip/myprint.py over the kit's print: contracts of functions of the given program, each at what its Lean function says. -/
import Derived.Test.YthkjkmgbdahggaaGreatPYx0
import Derived.Test.YthkjkmgbdahggaaGreatPYx7
import Derived.Test.YthkjkmgbdahggaaGreatPYx8
namespace Go.Proofs.YthkjkmgbdahggaaGreat.PY
open Go.RowKit Go.Proofs.YthkjkmgbdahggaaGreatW.PrintWords Go.Proofs.YthkjkmgbdahggaaGreatW.PrintLast Go.Proofs.YthkjkmgbdahggaaGreatW.PrintMore Go.Proofs.YthkjkmgbdahggaaGreat.Sq
attribute [local go_sem] max2_int min2_int max_two min_two max_three min_three max_four min_four   -- for this text's walks alone
set_option linter.unusedVariables false
set_option linter.unusedSimpArgs false
def impl_WaysOk.l0 : Nat → List (S34) → List (S34) → Int → Int → Option (Bool)
 | 0, _, _, _, _ => none
 | k + 1, x0, x5, x6, x7 => if x7 < x6 then (if 0 ≤ x7 then (if x7 < (x5.length : Int) then ((impl_BlockOk.f ((rd_T34 x5 x7).f0.f0) ((rd_T34 x5 x7).f0.f1)).bind fun t289 => (if t289 = true then ((impl_in.f ((rd_T34 x5 x7).f1) 0 99).bind fun t290 => (if t290 = true then (if x7 > 0 then (if 0 ≤ (wrap64 (x7 - 1)) then (if (wrap64 (x7 - 1)) < (x0.length : Int) then ((impl_byBlock.f k ((rd_T34 x0 (wrap64 (x7 - 1))).f0.f0) ((rd_T34 x0 (wrap64 (x7 - 1))).f0.f1) ((rd_T34 x5 x7).f0.f0) ((rd_T34 x5 x7).f0.f1)).bind fun t292 => (if t292 ≥ 0 then (some false) else (impl_WaysOk.l0 k x0 x5 x6 (wrap64 (x7 + 1))))) else (none)) else (none)) else (impl_WaysOk.l0 k x0 x5 x6 (wrap64 (x7 + 1)))) else (some false))) else (some false))) else (none)) else (none)) else (some (decide ((x0.length : Int) ≤ 40)))
def impl_WaysOk.f (k : Nat) (l0 : List (S34)) : Option (Bool) := impl_WaysOk.l0 k l0 l0 (l0.length : Int) 0
def impl_WaysOk.T4 : Bool × List (List Nat × List Nat) := (true, [([], []), ([0], [0]), ([1], [1]), ([2], [2]), ([3, 2], [3]), ([4], [4]), ([5, 4], [4, 5]), ([6, 4, 4], [4, 6]), ([7, 4], [4, 7]), ([4, 8], [4, 8]), ([9, 7], [9]), ([10], [10]), ([11, 10], [10, 11]), ([12, 10, 10], [10, 12]), ([13], [13]), ([13], [13]), ([15, 13], [13, 15]), ([14, 16, 13], [13, 14, 16]), ([17, 13], [13, 17]), ([18, 13], [13, 18]), ([13], [13]), ([20, 13], [13, 20]), ([19, 21, 13, 13], [13, 19, 21]), ([22, 13], [13, 22]), ([13, 23, 10], [10, 13, 23]), ([10, 24], [10, 24])])
def impl_WaysOk.B4 : List Nat := [0, 1, 3, 7, 15, 31, 63, 127, 255, 511, 1023, 2047, 4095, 8191, 16383, 16383, 49151, 131071, 262143, 524287, 16383, 1064959, 4194303, 8388607, 16777215, 33554431]
theorem impl_WaysOk.tab4 : rtab .any (opsOf Tryz.f16 4) = impl_WaysOk.T4 := by kernel_rfl
theorem impl_WaysOk.bits4 : waitsOk impl_WaysOk.T4.2 impl_WaysOk.B4 = true := by kernel_rfl
set_option maxHeartbeats 8000000 in
set_option maxRecDepth 100000 in
theorem impl_WaysOk.calls (k : Nat) (A0 : Option Addr) (c0 : Nat) (l0 : List (S34)) (r : Bool) (w : World) (hr0 : Kd.C k34 w A0 l0.length l0) (hc0 : l0.length ≤ c0) (h : impl_WaysOk.f k l0 = some r) :
  Calls Tryz.prog 16 #[.slice A0 l0.length c0] w fun e w' => e = .returned (.bool r) ∧ Below w.heap.size w w' := by
 have hu34 := Tryz.underlying34
 have hu32 := Tryz.underlying32
 have HR0 := Aside0.mk hr0
 have HC0 := Aside0.mk hc0
 clear hr0 hc0
 have HB := Aside0.mk (Below.refl w.heap.size w)
 have H : (impl_WaysOk.l0 k l0 l0 (l0.length : Int) 0) = some r := h
 clear h
 have H' := Aside0.mk H
 clear H
 go_enter Tryz.func16, Tryz.ntmps16
 go_wp2
 go_loopg [7] k (fun kq v7 w' => ∃ (x7_1 : Int), v7 = .int .i64 x7_1 ∧ Aside0 (impl_WaysOk.l0 kq l0 l0 (l0.length : Int) x7_1 = some r) ∧ Aside0 (kq ≤ k) ∧ Aside0 (Below w.heap.size w w'))
 case atStart => exact ⟨(0), zz8, H', ⟨Nat.le_refl _⟩, ⟨zz3⟩⟩
 case round =>
  clear H'
  try clear c1
  obtain ⟨x7_1, rfl, HA, HK1, HB⟩ := hrel
  cases gk with
  | zero => exact absurd HA.out (by simp [impl_WaysOk.l0])
  | succ k1 =>
   have H := HA.out
   clear HA
   simp only [impl_WaysOk.l0] at H
   replace H := ic H
   rcases H with ⟨c2b0, H⟩ | ⟨c2b0, H⟩
   ·replace H := gd H
    obtain ⟨c3b0, H⟩ := H
    replace H := gd H
    obtain ⟨c4b0, H⟩ := H
    replace H := bd H
    obtain ⟨t289, A5, H⟩ := H
    replace H : (if t289 = true then ((impl_in.f ((rd_T34 l0 x7_1).f1) 0 99).bind fun t290 => (if t290 = true then (if x7_1 > 0 then (if 0 ≤ (wrap64 (x7_1 - 1)) then (if (wrap64 (x7_1 - 1)) < (l0.length : Int) then ((impl_byBlock.f k1 ((rd_T34 l0 (wrap64 (x7_1 - 1))).f0.f0) ((rd_T34 l0 (wrap64 (x7_1 - 1))).f0.f1) ((rd_T34 l0 x7_1).f0.f0) ((rd_T34 l0 x7_1).f0.f1)).bind fun t292 => (if t292 ≥ 0 then (some false) else (impl_WaysOk.l0 k1 l0 l0 (l0.length : Int) (wrap64 (x7_1 + 1))))) else (none)) else (none)) else (impl_WaysOk.l0 k1 l0 l0 (l0.length : Int) (wrap64 (x7_1 + 1)))) else (some false))) else (some false)) = some r := H
    by_cases c6 : t289 = true
    ·subst c6
     have H1 : ((impl_in.f ((rd_T34 l0 x7_1).f1) 0 99).bind fun t290 => (if t290 = true then (if x7_1 > 0 then (if 0 ≤ (wrap64 (x7_1 - 1)) then (if (wrap64 (x7_1 - 1)) < (l0.length : Int) then ((impl_byBlock.f k1 ((rd_T34 l0 (wrap64 (x7_1 - 1))).f0.f0) ((rd_T34 l0 (wrap64 (x7_1 - 1))).f0.f1) ((rd_T34 l0 x7_1).f0.f0) ((rd_T34 l0 x7_1).f0.f1)).bind fun t292 => (if t292 ≥ 0 then (some false) else (impl_WaysOk.l0 k1 l0 l0 (l0.length : Int) (wrap64 (x7_1 + 1))))) else (none)) else (none)) else (impl_WaysOk.l0 k1 l0 l0 (l0.length : Int) (wrap64 (x7_1 + 1)))) else (some false))) = some r := by rw [if_pos rfl] at H; exact H
     clear H
     have H := H1
     clear H1
     replace H := bd H
     obtain ⟨t290, A7, H⟩ := H
     replace H : (if t290 = true then (if x7_1 > 0 then (if 0 ≤ (wrap64 (x7_1 - 1)) then (if (wrap64 (x7_1 - 1)) < (l0.length : Int) then ((impl_byBlock.f k1 ((rd_T34 l0 (wrap64 (x7_1 - 1))).f0.f0) ((rd_T34 l0 (wrap64 (x7_1 - 1))).f0.f1) ((rd_T34 l0 x7_1).f0.f0) ((rd_T34 l0 x7_1).f0.f1)).bind fun t292 => (if t292 ≥ 0 then (some false) else (impl_WaysOk.l0 k1 l0 l0 (l0.length : Int) (wrap64 (x7_1 + 1))))) else (none)) else (none)) else (impl_WaysOk.l0 k1 l0 l0 (l0.length : Int) (wrap64 (x7_1 + 1)))) else (some false)) = some r := H
     by_cases c8 : t290 = true
     ·subst c8
      have H1 : (if x7_1 > 0 then (if 0 ≤ (wrap64 (x7_1 - 1)) then (if (wrap64 (x7_1 - 1)) < (l0.length : Int) then ((impl_byBlock.f k1 ((rd_T34 l0 (wrap64 (x7_1 - 1))).f0.f0) ((rd_T34 l0 (wrap64 (x7_1 - 1))).f0.f1) ((rd_T34 l0 x7_1).f0.f0) ((rd_T34 l0 x7_1).f0.f1)).bind fun t292 => (if t292 ≥ 0 then (some false) else (impl_WaysOk.l0 k1 l0 l0 (l0.length : Int) (wrap64 (x7_1 + 1))))) else (none)) else (none)) else (impl_WaysOk.l0 k1 l0 l0 (l0.length : Int) (wrap64 (x7_1 + 1)))) = some r := by rw [if_pos rfl] at H; exact H
      clear H
      have H := H1
      clear H1
      replace H := ic H
      rcases H with ⟨c9b0, H⟩ | ⟨c9b0, H⟩
      ·obtain ⟨ji10, hji10⟩ : ∃ j_ : Int, (wrap64 (x7_1 - 1)) = j_ := ⟨_, rfl⟩
       replace H : (if 0 ≤ (ji10) then (if (ji10) < (l0.length : Int) then ((impl_byBlock.f k1 ((rd_T34 l0 (ji10)).f0.f0) ((rd_T34 l0 (ji10)).f0.f1) ((rd_T34 l0 x7_1).f0.f0) ((rd_T34 l0 x7_1).f0.f1)).bind fun t292 => (if t292 ≥ 0 then (some false) else (impl_WaysOk.l0 k1 l0 l0 (l0.length : Int) (wrap64 (x7_1 + 1))))) else (none)) else (none)) = some r := by first | (rw [hji10] at H; exact H) | (simp only [hji10] at H ⊢; exact H)
       (try rw [hji10] at A5)
       (try rw [hji10] at A7)
       have hji10w : (IntKind.i64.wrap (x7_1 - 1)) = ji10 := (i64_w _).trans hji10
       replace H := gd H
       obtain ⟨c11b0, H⟩ := H
       replace H := gd H
       obtain ⟨c12b0, H⟩ := H
       replace H := bd H
       obtain ⟨t292, A13, H⟩ := H
       replace H : (if t292 ≥ 0 then (some false) else (impl_WaysOk.l0 k1 l0 l0 (l0.length : Int) (wrap64 (x7_1 + 1)))) = some r := H
       replace H := ic H
       rcases H with ⟨c14b0, H⟩ | ⟨c14b0, H⟩
       ·obtain rfl := Option.some.inj H
        obtain ⟨⟨ad287, e287, hx287_0, hx287_1, hx287_2⟩, p287, q287⟩ := wi (at_T34 HR0.out x7_1)
        cases e287
        replace hx287_0 := (HB.out.cell (World.block_lt_of_cell? w _ hx287_0)).trans hx287_0
        replace hx287_1 := (HB.out.cell (World.block_lt_of_cell? w _ hx287_1)).trans hx287_1
        replace hx287_2 := (HB.out.cell (World.block_lt_of_cell? w _ hx287_2)).trans hx287_2
        try go_wp2_with (first | (refine be 4 #[.int .i64 0, .int .i64 0, .int .i64 0] 34 ?_; intro gb288 hg w15 hbox hb; have BK288 := Aside0.mk hbox; have GW288 := Aside0.mk (zz16 : w.heap.size ≤ gb288); have GE288 := Aside0.mk (zz16 : w.heap.size ≤ gb288); replace HB := Aside0.mk (below_step zz3 hb); clear hb hbox hg; have hcz16_0 : w15.cell? ⟨gb288, 0, none⟩ = some (.int .i64 0) := (blk_cell BK288.out 0).trans rfl; have hcz16_1 : w15.cell? ⟨gb288, 1, none⟩ = some (.int .i64 0) := (blk_cell BK288.out 1).trans rfl; have hcz16_2 : w15.cell? ⟨gb288, 2, none⟩ = some (.int .i64 0) := (blk_cell BK288.out 2).trans rfl; have hfz16_0 := blk_frozen BK288.out 0; have hfz16_1 := blk_frozen BK288.out 1; have hfz16_2 := blk_frozen BK288.out 2))
        have n0_ : Aside0 ((((w15.setCell ⟨gb288, 0, none⟩ (.int .i64 ((rd_T34 l0 x7_1).f0.f0))).setCell ⟨gb288, 1, none⟩ (.int .i64 ((rd_T34 l0 x7_1).f0.f1))).setCell ⟨gb288, 2, none⟩ (.int .i64 ((rd_T34 l0 x7_1).f1))).heap[gb288]? = some (.cells #[.int .i64 ((rd_T34 l0 x7_1).f0.f0), .int .i64 ((rd_T34 l0 x7_1).f0.f1), .int .i64 ((rd_T34 l0 x7_1).f1)] 34 (0, 0))) := ⟨by (with_reducible repeat (first | refine blk_drewN ?_ _ | refine blk_drew ?_ | refine blk_alloc ?_ _)); refine blk_put (cs := #[.int .i64 ((rd_T34 l0 x7_1).f0.f0), .int .i64 ((rd_T34 l0 x7_1).f0.f1), .int .i64 0]) ?_ 2 _ rfl; (with_reducible repeat (first | refine blk_drewN ?_ _ | refine blk_drew ?_ | refine blk_alloc ?_ _)); refine blk_put (cs := #[.int .i64 ((rd_T34 l0 x7_1).f0.f0), .int .i64 0, .int .i64 0]) ?_ 1 _ rfl; (with_reducible repeat (first | refine blk_drewN ?_ _ | refine blk_drew ?_ | refine blk_alloc ?_ _)); refine blk_put (cs := #[.int .i64 0, .int .i64 0, .int .i64 0]) ?_ 0 _ rfl; (with_reducible repeat (first | refine blk_drewN ?_ _ | refine blk_drew ?_ | refine blk_alloc ?_ _)); exact BK288.out⟩
        have n1_ : Aside0 (Below w.heap.size w (((w15.setCell ⟨gb288, 0, none⟩ (.int .i64 ((rd_T34 l0 x7_1).f0.f0))).setCell ⟨gb288, 1, none⟩ (.int .i64 ((rd_T34 l0 x7_1).f0.f1))).setCell ⟨gb288, 2, none⟩ (.int .i64 ((rd_T34 l0 x7_1).f1)))) := ⟨zz6 GE288⟩
        (try clear BK288)
        (try clear HB)
        generalize (((w15.setCell ⟨gb288, 0, none⟩ (.int .i64 ((rd_T34 l0 x7_1).f0.f0))).setCell ⟨gb288, 1, none⟩ (.int .i64 ((rd_T34 l0 x7_1).f0.f1))).setCell ⟨gb288, 2, none⟩ (.int .i64 ((rd_T34 l0 x7_1).f1))) = w17 at n0_ n1_ ⊢
        have BK288 := n0_
        have HB := n1_
        clear n0_ n1_
        replace BK288 := Aside0.mk (blk_drew BK288.out)
        replace HB := Aside0.mk (below_drew1 HB.out)
        obtain ⟨⟨ad291, e291, hx291_0, hx291_1, hx291_2⟩, p291, q291⟩ := wi (at_T34 HR0.out (ji10))
        have hw291_2 := hx291_2
        have hw291_1 := hx291_1
        have hw291_0 := hx291_0
        obtain rfl : ad287 = ad291 := (by injection e291)
        replace hx291_0 := (HB.out.cell (World.block_lt_of_cell? w _ hx291_0)).trans hx291_0
        replace hx291_1 := (HB.out.cell (World.block_lt_of_cell? w _ hx291_1)).trans hx291_1
        replace hx291_2 := (HB.out.cell (World.block_lt_of_cell? w _ hx291_2)).trans hx291_2
        refine start_ (n := 26) (S := fun w' => w'.cell? ⟨gb288, 0, none⟩ = some (.int .i64 ((rd_T34 l0 x7_1).f0.f0)) ∧ w'.cell? ⟨gb288, 1, none⟩ = some (.int .i64 ((rd_T34 l0 x7_1).f0.f1)) ∧ w'.cell? ⟨gb288, 2, none⟩ = some (.int .i64 ((rd_T34 l0 x7_1).f1)) ∧ w'.cell? (ad287.add (((ji10)).toNat * 3)) = some (.int .i64 ((rd_T34 l0 (ji10)).f0.f0)) ∧ w'.cell? ⟨(ad287.add (((ji10)).toNat * 3)).block, (ad287.add (((ji10)).toNat * 3)).off + 1, none⟩ = some (.int .i64 ((rd_T34 l0 (ji10)).f0.f1)) ∧ w'.cell? ⟨(ad287.add (((ji10)).toNat * 3)).block, (ad287.add (((ji10)).toNat * 3)).off + 2, none⟩ = some (.int .i64 ((rd_T34 l0 (ji10)).f1))) (ds := []) (bm 26 0) (by kernel_rfl) rfl rfl ⟨(blk_cell BK288.out 0).trans rfl, (blk_cell BK288.out 1).trans rfl, (blk_cell BK288.out 2).trans rfl, ((HB.out.cell (World.block_lt_of_cell? w _ hw291_0)).trans hw291_0), ((HB.out.cell (World.block_lt_of_cell? w _ hw291_1)).trans hw291_1), ((HB.out.cell (World.block_lt_of_cell? w _ hw291_2)).trans hw291_2)⟩ (fun hHeld => ?_); refine with_tabW impl_WaysOk.tab4 impl_WaysOk.bits4 (fun HT_ HW_ => ?_)
        generalize w17.drew = w18 at BK288 HB hx291_0 hx291_1 hx291_2 hHeld ⊢
        refine pu 0 12 (bm 26 1) ?_
        refine tk 1 13 (bm 26 3) ?_
        refine on 2 (some 14) (bm 26 7) (fun K hK => ?_)
        refine gs Tryz.func40 #[.agg #[.int .i64 ((rd_T34 l0 x7_1).f0.f0), .int .i64 ((rd_T34 l0 x7_1).f0.f1)]] ?_
        with_reducible refine (impl_BlockOk.calls ((rd_T34 l0 x7_1).f0.f0) ((rd_T34 l0 x7_1).f0.f1) true _ A5.out).mono ?_
        rintro e w19 ⟨rfl, hb⟩
        refine ⟨_, rfl, ?_⟩
        replace BK288 := Aside0.mk (blk_below (g := gb288) (o := .cells #[.int .i64 ((rd_T34 l0 x7_1).f0.f0), .int .i64 ((rd_T34 l0 x7_1).f0.f1), .int .i64 ((rd_T34 l0 x7_1).f1)] 34 (0, 0)) (zz5 BK288) hb)
        replace HB := Aside0.mk (below_step (zz6 GE288) hb)
        (try clear hb)
        (try clear hb2)
        (try clear hk)
        (try clear hi)
        refine hK.out _ _ ⟨(blk_cell BK288.out 0).trans rfl, (blk_cell BK288.out 1).trans rfl, (blk_cell BK288.out 2).trans rfl, ((HB.out.cell (World.block_lt_of_cell? w _ hw291_0)).trans hw291_0), ((HB.out.cell (World.block_lt_of_cell? w _ hw291_1)).trans hw291_1), ((HB.out.cell (World.block_lt_of_cell? w _ hw291_2)).trans hw291_2)⟩ (fun hHeld => ?_)
        clear hK K
        refine nm 14 ?_
        refine pu 3 15 (bm 26 15) ?_
        refine pu 4 16 (bm 26 31) ?_
        refine pu 5 17 (bm 26 63) ?_
        refine tk 6 18 (bm 26 127) ?_
        refine on 7 (some 19) (bm 26 255) (fun K hK => ?_)
        refine gs Tryz.func17 #[.int .i64 ((rd_T34 l0 x7_1).f1), .int .i64 0, .int .i64 99] ?_
        with_reducible refine (impl_in.calls ((rd_T34 l0 x7_1).f1) 0 99 true _ A7.out).mono ?_
        rintro e w' ⟨rfl, ⟨nd, rfl⟩⟩
        refine ⟨_, rfl, ?_⟩
        refine hK.out _ _ ⟨(blk_cell BK288.out 0).trans rfl, (blk_cell BK288.out 1).trans rfl, (blk_cell BK288.out 2).trans rfl, ((HB.out.cell (World.block_lt_of_cell? w _ hw291_0)).trans hw291_0), ((HB.out.cell (World.block_lt_of_cell? w _ hw291_1)).trans hw291_1), ((HB.out.cell (World.block_lt_of_cell? w _ hw291_2)).trans hw291_2)⟩ (fun hHeld => ?_)
        clear hK K
        refine nm 19 ?_
        refine pu 8 20 (bm 26 511) ?_
        refine pu 9 21 (bm 26 1023) ?_
        refine pu 10 22 (bm 26 2047) ?_
        refine pu 11 23 (bm 26 4095) ?_
        refine pu 12 24 (bm 26 8191) ?_
        refine pu 13 25 (bm 26 16383) ?_
        refine pu 14 26 (bm 26 32767) ?_
        refine pu 15 27 (bm 26 65535) ?_
        refine pu 16 28 (bm 26 131071) ?_
        refine pu 17 29 (bm 26 262143) ?_
        refine pu 18 30 (bm 26 524287) ?_
        refine pu 20 32 (bm 26 1572863) ?_
        refine tk 19 31 (bm 26 2097151) ?_
        refine tk 21 33 (bm 26 4194303) ?_
        refine on 22 (some 34) (bm 26 8388607) (fun K hK => ?_)
        refine goes_ Tryz.func41 (by kernel_rfl) rfl #[.agg #[.int .i64 ((rd_T34 l0 (ji10)).f0.f0), .int .i64 ((rd_T34 l0 (ji10)).f0.f1)], .agg #[.int .i64 ((rd_T34 l0 x7_1).f0.f0), .int .i64 ((rd_T34 l0 x7_1).f0.f1)]] (by rfl) rfl rfl (by (try simp only [List.map_toArray, List.map_cons, List.map_nil]); first | done | (simp only [hji10]; rfl) | rfl | (simp only [List.length_drop, List.length_take]; rfl)) ?_
        with_reducible refine (impl_byBlock.calls k1 ((rd_T34 l0 (ji10)).f0.f0) ((rd_T34 l0 (ji10)).f0.f1) ((rd_T34 l0 x7_1).f0.f0) ((rd_T34 l0 x7_1).f0.f1) t292 _ A13.out).mono ?_
        rintro e w20 ⟨rfl, hb⟩
        refine ⟨_, rfl, ?_⟩
        replace BK288 := Aside0.mk (blk_below (g := gb288) (o := .cells #[.int .i64 ((rd_T34 l0 x7_1).f0.f0), .int .i64 ((rd_T34 l0 x7_1).f0.f1), .int .i64 ((rd_T34 l0 x7_1).f1)] 34 (0, 0)) (zz5 BK288) hb)
        replace HB := Aside0.mk (below_step (zz6 GE288) hb)
        (try clear hb)
        (try clear hb2)
        (try clear hk)
        (try clear hi)
        refine hK.out _ _ ⟨(blk_cell BK288.out 0).trans rfl, (blk_cell BK288.out 1).trans rfl, (blk_cell BK288.out 2).trans rfl, ((HB.out.cell (World.block_lt_of_cell? w _ hw291_0)).trans hw291_0), ((HB.out.cell (World.block_lt_of_cell? w _ hw291_1)).trans hw291_1), ((HB.out.cell (World.block_lt_of_cell? w _ hw291_2)).trans hw291_2)⟩ (fun hHeld => ?_)
        clear hK K
        refine nm 34 ?_
        refine pu 23 35 (bm 26 16777215) ?_
        refine pu 24 36 (bm 26 33554431) ?_
        refine pu 25 37 (bm 26 67108863) ?_
        refine done_ (done_of HT_.out (by kernel_rfl)) ?_
        try go_wp2
        go_ret
        exact ⟨by first | rfl | (simp [errW_none, errW_some] <;> rfl) | (simp only [← hji10]; first | rfl | (simp [errW_none, errW_some] <;> rfl)) | (simp [*, errW_none, errW_some] <;> rfl), zz6 GE288⟩
       ·have H' := Aside0.mk H
        clear H
        obtain ⟨⟨ad287, e287, hx287_0, hx287_1, hx287_2⟩, p287, q287⟩ := wi (at_T34 HR0.out x7_1)
        cases e287
        replace hx287_0 := (HB.out.cell (World.block_lt_of_cell? w _ hx287_0)).trans hx287_0
        replace hx287_1 := (HB.out.cell (World.block_lt_of_cell? w _ hx287_1)).trans hx287_1
        replace hx287_2 := (HB.out.cell (World.block_lt_of_cell? w _ hx287_2)).trans hx287_2
        try go_wp2_with (first | (refine be 4 #[.int .i64 0, .int .i64 0, .int .i64 0] 34 ?_; intro gb288 hg w21 hbox hb; have BK288 := Aside0.mk hbox; have GW288 := Aside0.mk (zz16 : w.heap.size ≤ gb288); have GE288 := Aside0.mk (zz16 : w.heap.size ≤ gb288); replace HB := Aside0.mk (below_step zz3 hb); clear hb hbox hg; have hcz22_0 : w21.cell? ⟨gb288, 0, none⟩ = some (.int .i64 0) := (blk_cell BK288.out 0).trans rfl; have hcz22_1 : w21.cell? ⟨gb288, 1, none⟩ = some (.int .i64 0) := (blk_cell BK288.out 1).trans rfl; have hcz22_2 : w21.cell? ⟨gb288, 2, none⟩ = some (.int .i64 0) := (blk_cell BK288.out 2).trans rfl; have hfz22_0 := blk_frozen BK288.out 0; have hfz22_1 := blk_frozen BK288.out 1; have hfz22_2 := blk_frozen BK288.out 2))
        have n0_ : Aside0 ((((w21.setCell ⟨gb288, 0, none⟩ (.int .i64 ((rd_T34 l0 x7_1).f0.f0))).setCell ⟨gb288, 1, none⟩ (.int .i64 ((rd_T34 l0 x7_1).f0.f1))).setCell ⟨gb288, 2, none⟩ (.int .i64 ((rd_T34 l0 x7_1).f1))).heap[gb288]? = some (.cells #[.int .i64 ((rd_T34 l0 x7_1).f0.f0), .int .i64 ((rd_T34 l0 x7_1).f0.f1), .int .i64 ((rd_T34 l0 x7_1).f1)] 34 (0, 0))) := ⟨by (with_reducible repeat (first | refine blk_drewN ?_ _ | refine blk_drew ?_ | refine blk_alloc ?_ _)); refine blk_put (cs := #[.int .i64 ((rd_T34 l0 x7_1).f0.f0), .int .i64 ((rd_T34 l0 x7_1).f0.f1), .int .i64 0]) ?_ 2 _ rfl; (with_reducible repeat (first | refine blk_drewN ?_ _ | refine blk_drew ?_ | refine blk_alloc ?_ _)); refine blk_put (cs := #[.int .i64 ((rd_T34 l0 x7_1).f0.f0), .int .i64 0, .int .i64 0]) ?_ 1 _ rfl; (with_reducible repeat (first | refine blk_drewN ?_ _ | refine blk_drew ?_ | refine blk_alloc ?_ _)); refine blk_put (cs := #[.int .i64 0, .int .i64 0, .int .i64 0]) ?_ 0 _ rfl; (with_reducible repeat (first | refine blk_drewN ?_ _ | refine blk_drew ?_ | refine blk_alloc ?_ _)); exact BK288.out⟩
        have n1_ : Aside0 (Below w.heap.size w (((w21.setCell ⟨gb288, 0, none⟩ (.int .i64 ((rd_T34 l0 x7_1).f0.f0))).setCell ⟨gb288, 1, none⟩ (.int .i64 ((rd_T34 l0 x7_1).f0.f1))).setCell ⟨gb288, 2, none⟩ (.int .i64 ((rd_T34 l0 x7_1).f1)))) := ⟨zz6 GE288⟩
        (try clear BK288)
        (try clear HB)
        generalize (((w21.setCell ⟨gb288, 0, none⟩ (.int .i64 ((rd_T34 l0 x7_1).f0.f0))).setCell ⟨gb288, 1, none⟩ (.int .i64 ((rd_T34 l0 x7_1).f0.f1))).setCell ⟨gb288, 2, none⟩ (.int .i64 ((rd_T34 l0 x7_1).f1))) = w23 at n0_ n1_ ⊢
        have BK288 := n0_
        have HB := n1_
        clear n0_ n1_
        replace BK288 := Aside0.mk (blk_drew BK288.out)
        replace HB := Aside0.mk (below_drew1 HB.out)
        obtain ⟨⟨ad291, e291, hx291_0, hx291_1, hx291_2⟩, p291, q291⟩ := wi (at_T34 HR0.out (ji10))
        have hw291_2 := hx291_2
        have hw291_1 := hx291_1
        have hw291_0 := hx291_0
        obtain rfl : ad287 = ad291 := (by injection e291)
        replace hx291_0 := (HB.out.cell (World.block_lt_of_cell? w _ hx291_0)).trans hx291_0
        replace hx291_1 := (HB.out.cell (World.block_lt_of_cell? w _ hx291_1)).trans hx291_1
        replace hx291_2 := (HB.out.cell (World.block_lt_of_cell? w _ hx291_2)).trans hx291_2
        refine start_ (n := 26) (S := fun w' => w'.cell? ⟨gb288, 0, none⟩ = some (.int .i64 ((rd_T34 l0 x7_1).f0.f0)) ∧ w'.cell? ⟨gb288, 1, none⟩ = some (.int .i64 ((rd_T34 l0 x7_1).f0.f1)) ∧ w'.cell? ⟨gb288, 2, none⟩ = some (.int .i64 ((rd_T34 l0 x7_1).f1)) ∧ w'.cell? (ad287.add (((ji10)).toNat * 3)) = some (.int .i64 ((rd_T34 l0 (ji10)).f0.f0)) ∧ w'.cell? ⟨(ad287.add (((ji10)).toNat * 3)).block, (ad287.add (((ji10)).toNat * 3)).off + 1, none⟩ = some (.int .i64 ((rd_T34 l0 (ji10)).f0.f1)) ∧ w'.cell? ⟨(ad287.add (((ji10)).toNat * 3)).block, (ad287.add (((ji10)).toNat * 3)).off + 2, none⟩ = some (.int .i64 ((rd_T34 l0 (ji10)).f1))) (ds := []) (bm 26 0) (by kernel_rfl) rfl rfl ⟨(blk_cell BK288.out 0).trans rfl, (blk_cell BK288.out 1).trans rfl, (blk_cell BK288.out 2).trans rfl, ((HB.out.cell (World.block_lt_of_cell? w _ hw291_0)).trans hw291_0), ((HB.out.cell (World.block_lt_of_cell? w _ hw291_1)).trans hw291_1), ((HB.out.cell (World.block_lt_of_cell? w _ hw291_2)).trans hw291_2)⟩ (fun hHeld => ?_); refine with_tabW impl_WaysOk.tab4 impl_WaysOk.bits4 (fun HT_ HW_ => ?_)
        generalize w23.drew = w24 at BK288 HB hx291_0 hx291_1 hx291_2 hHeld ⊢
        refine pu 0 12 (bm 26 1) ?_
        refine tk 1 13 (bm 26 3) ?_
        refine on 2 (some 14) (bm 26 7) (fun K hK => ?_)
        refine gs Tryz.func40 #[.agg #[.int .i64 ((rd_T34 l0 x7_1).f0.f0), .int .i64 ((rd_T34 l0 x7_1).f0.f1)]] ?_
        with_reducible refine (impl_BlockOk.calls ((rd_T34 l0 x7_1).f0.f0) ((rd_T34 l0 x7_1).f0.f1) true _ A5.out).mono ?_
        rintro e w25 ⟨rfl, hb⟩
        refine ⟨_, rfl, ?_⟩
        replace BK288 := Aside0.mk (blk_below (g := gb288) (o := .cells #[.int .i64 ((rd_T34 l0 x7_1).f0.f0), .int .i64 ((rd_T34 l0 x7_1).f0.f1), .int .i64 ((rd_T34 l0 x7_1).f1)] 34 (0, 0)) (zz5 BK288) hb)
        replace HB := Aside0.mk (below_step (zz6 GE288) hb)
        (try clear hb)
        (try clear hb2)
        (try clear hk)
        (try clear hi)
        refine hK.out _ _ ⟨(blk_cell BK288.out 0).trans rfl, (blk_cell BK288.out 1).trans rfl, (blk_cell BK288.out 2).trans rfl, ((HB.out.cell (World.block_lt_of_cell? w _ hw291_0)).trans hw291_0), ((HB.out.cell (World.block_lt_of_cell? w _ hw291_1)).trans hw291_1), ((HB.out.cell (World.block_lt_of_cell? w _ hw291_2)).trans hw291_2)⟩ (fun hHeld => ?_)
        clear hK K
        refine nm 14 ?_
        refine pu 3 15 (bm 26 15) ?_
        refine pu 4 16 (bm 26 31) ?_
        refine pu 5 17 (bm 26 63) ?_
        refine tk 6 18 (bm 26 127) ?_
        refine on 7 (some 19) (bm 26 255) (fun K hK => ?_)
        refine gs Tryz.func17 #[.int .i64 ((rd_T34 l0 x7_1).f1), .int .i64 0, .int .i64 99] ?_
        with_reducible refine (impl_in.calls ((rd_T34 l0 x7_1).f1) 0 99 true _ A7.out).mono ?_
        rintro e w' ⟨rfl, ⟨nd, rfl⟩⟩
        refine ⟨_, rfl, ?_⟩
        refine hK.out _ _ ⟨(blk_cell BK288.out 0).trans rfl, (blk_cell BK288.out 1).trans rfl, (blk_cell BK288.out 2).trans rfl, ((HB.out.cell (World.block_lt_of_cell? w _ hw291_0)).trans hw291_0), ((HB.out.cell (World.block_lt_of_cell? w _ hw291_1)).trans hw291_1), ((HB.out.cell (World.block_lt_of_cell? w _ hw291_2)).trans hw291_2)⟩ (fun hHeld => ?_)
        clear hK K
        refine nm 19 ?_
        refine pu 8 20 (bm 26 511) ?_
        refine pu 9 21 (bm 26 1023) ?_
        refine pu 10 22 (bm 26 2047) ?_
        refine pu 11 23 (bm 26 4095) ?_
        refine pu 12 24 (bm 26 8191) ?_
        refine pu 13 25 (bm 26 16383) ?_
        refine pu 14 26 (bm 26 32767) ?_
        refine pu 15 27 (bm 26 65535) ?_
        refine pu 16 28 (bm 26 131071) ?_
        refine pu 17 29 (bm 26 262143) ?_
        refine pu 18 30 (bm 26 524287) ?_
        refine pu 20 32 (bm 26 1572863) ?_
        refine tk 19 31 (bm 26 2097151) ?_
        refine tk 21 33 (bm 26 4194303) ?_
        refine on 22 (some 34) (bm 26 8388607) (fun K hK => ?_)
        refine goes_ Tryz.func41 (by kernel_rfl) rfl #[.agg #[.int .i64 ((rd_T34 l0 (ji10)).f0.f0), .int .i64 ((rd_T34 l0 (ji10)).f0.f1)], .agg #[.int .i64 ((rd_T34 l0 x7_1).f0.f0), .int .i64 ((rd_T34 l0 x7_1).f0.f1)]] (by rfl) rfl rfl (by (try simp only [List.map_toArray, List.map_cons, List.map_nil]); first | done | (simp only [hji10]; rfl) | rfl | (simp only [List.length_drop, List.length_take]; rfl)) ?_
        with_reducible refine (impl_byBlock.calls k1 ((rd_T34 l0 (ji10)).f0.f0) ((rd_T34 l0 (ji10)).f0.f1) ((rd_T34 l0 x7_1).f0.f0) ((rd_T34 l0 x7_1).f0.f1) t292 _ A13.out).mono ?_
        rintro e w26 ⟨rfl, hb⟩
        refine ⟨_, rfl, ?_⟩
        replace BK288 := Aside0.mk (blk_below (g := gb288) (o := .cells #[.int .i64 ((rd_T34 l0 x7_1).f0.f0), .int .i64 ((rd_T34 l0 x7_1).f0.f1), .int .i64 ((rd_T34 l0 x7_1).f1)] 34 (0, 0)) (zz5 BK288) hb)
        replace HB := Aside0.mk (below_step (zz6 GE288) hb)
        (try clear hb)
        (try clear hb2)
        (try clear hk)
        (try clear hi)
        refine hK.out _ _ ⟨(blk_cell BK288.out 0).trans rfl, (blk_cell BK288.out 1).trans rfl, (blk_cell BK288.out 2).trans rfl, ((HB.out.cell (World.block_lt_of_cell? w _ hw291_0)).trans hw291_0), ((HB.out.cell (World.block_lt_of_cell? w _ hw291_1)).trans hw291_1), ((HB.out.cell (World.block_lt_of_cell? w _ hw291_2)).trans hw291_2)⟩ (fun hHeld => ?_)
        clear hK K
        refine nm 34 ?_
        refine pu 23 35 (bm 26 16777215) ?_
        refine pu 24 36 (bm 26 33554431) ?_
        refine pu 25 37 (bm 26 67108863) ?_
        refine done_ (done_of HT_.out (by kernel_rfl)) ?_
        try go_wp2
        go_roundg k1
        case measure => have := HK1.out; omega
        case rel => exact ⟨(wrap64 (x7_1 + 1)), zz8, H', ⟨zz15 HK1⟩, ⟨zz6 GE288⟩⟩
      ·have H' := Aside0.mk H
       clear H
       obtain ⟨⟨ad287, e287, hx287_0, hx287_1, hx287_2⟩, p287, q287⟩ := wi (at_T34 HR0.out x7_1)
       cases e287
       replace hx287_0 := (HB.out.cell (World.block_lt_of_cell? w _ hx287_0)).trans hx287_0
       replace hx287_1 := (HB.out.cell (World.block_lt_of_cell? w _ hx287_1)).trans hx287_1
       replace hx287_2 := (HB.out.cell (World.block_lt_of_cell? w _ hx287_2)).trans hx287_2
       try go_wp2_with (first | (refine be 4 #[.int .i64 0, .int .i64 0, .int .i64 0] 34 ?_; intro gb288 hg w27 hbox hb; have BK288 := Aside0.mk hbox; have GW288 := Aside0.mk (zz16 : w.heap.size ≤ gb288); have GE288 := Aside0.mk (zz16 : w.heap.size ≤ gb288); replace HB := Aside0.mk (below_step zz3 hb); clear hb hbox hg; have hcz28_0 : w27.cell? ⟨gb288, 0, none⟩ = some (.int .i64 0) := (blk_cell BK288.out 0).trans rfl; have hcz28_1 : w27.cell? ⟨gb288, 1, none⟩ = some (.int .i64 0) := (blk_cell BK288.out 1).trans rfl; have hcz28_2 : w27.cell? ⟨gb288, 2, none⟩ = some (.int .i64 0) := (blk_cell BK288.out 2).trans rfl; have hfz28_0 := blk_frozen BK288.out 0; have hfz28_1 := blk_frozen BK288.out 1; have hfz28_2 := blk_frozen BK288.out 2))
       have n0_ : Aside0 ((((w27.setCell ⟨gb288, 0, none⟩ (.int .i64 ((rd_T34 l0 x7_1).f0.f0))).setCell ⟨gb288, 1, none⟩ (.int .i64 ((rd_T34 l0 x7_1).f0.f1))).setCell ⟨gb288, 2, none⟩ (.int .i64 ((rd_T34 l0 x7_1).f1))).heap[gb288]? = some (.cells #[.int .i64 ((rd_T34 l0 x7_1).f0.f0), .int .i64 ((rd_T34 l0 x7_1).f0.f1), .int .i64 ((rd_T34 l0 x7_1).f1)] 34 (0, 0))) := ⟨by (with_reducible repeat (first | refine blk_drewN ?_ _ | refine blk_drew ?_ | refine blk_alloc ?_ _)); refine blk_put (cs := #[.int .i64 ((rd_T34 l0 x7_1).f0.f0), .int .i64 ((rd_T34 l0 x7_1).f0.f1), .int .i64 0]) ?_ 2 _ rfl; (with_reducible repeat (first | refine blk_drewN ?_ _ | refine blk_drew ?_ | refine blk_alloc ?_ _)); refine blk_put (cs := #[.int .i64 ((rd_T34 l0 x7_1).f0.f0), .int .i64 0, .int .i64 0]) ?_ 1 _ rfl; (with_reducible repeat (first | refine blk_drewN ?_ _ | refine blk_drew ?_ | refine blk_alloc ?_ _)); refine blk_put (cs := #[.int .i64 0, .int .i64 0, .int .i64 0]) ?_ 0 _ rfl; (with_reducible repeat (first | refine blk_drewN ?_ _ | refine blk_drew ?_ | refine blk_alloc ?_ _)); exact BK288.out⟩
       have n1_ : Aside0 (Below w.heap.size w (((w27.setCell ⟨gb288, 0, none⟩ (.int .i64 ((rd_T34 l0 x7_1).f0.f0))).setCell ⟨gb288, 1, none⟩ (.int .i64 ((rd_T34 l0 x7_1).f0.f1))).setCell ⟨gb288, 2, none⟩ (.int .i64 ((rd_T34 l0 x7_1).f1)))) := ⟨zz6 GE288⟩
       (try clear BK288)
       (try clear HB)
       generalize (((w27.setCell ⟨gb288, 0, none⟩ (.int .i64 ((rd_T34 l0 x7_1).f0.f0))).setCell ⟨gb288, 1, none⟩ (.int .i64 ((rd_T34 l0 x7_1).f0.f1))).setCell ⟨gb288, 2, none⟩ (.int .i64 ((rd_T34 l0 x7_1).f1))) = w29 at n0_ n1_ ⊢
       have BK288 := n0_
       have HB := n1_
       clear n0_ n1_
       replace BK288 := Aside0.mk (blk_drew BK288.out)
       replace HB := Aside0.mk (below_drew1 HB.out)
       refine start_ (n := 26) (S := fun w' => w'.cell? ⟨gb288, 0, none⟩ = some (.int .i64 ((rd_T34 l0 x7_1).f0.f0)) ∧ w'.cell? ⟨gb288, 1, none⟩ = some (.int .i64 ((rd_T34 l0 x7_1).f0.f1)) ∧ w'.cell? ⟨gb288, 2, none⟩ = some (.int .i64 ((rd_T34 l0 x7_1).f1))) (ds := []) (bm 26 0) (by kernel_rfl) rfl rfl ⟨(blk_cell BK288.out 0).trans rfl, (blk_cell BK288.out 1).trans rfl, (blk_cell BK288.out 2).trans rfl⟩ (fun hHeld => ?_); refine with_tabW impl_WaysOk.tab4 impl_WaysOk.bits4 (fun HT_ HW_ => ?_)
       generalize w29.drew = w30 at BK288 HB hHeld ⊢
       refine pu 0 12 (bm 26 1) ?_
       refine tk 1 13 (bm 26 3) ?_
       refine on 2 (some 14) (bm 26 7) (fun K hK => ?_)
       refine gs Tryz.func40 #[.agg #[.int .i64 ((rd_T34 l0 x7_1).f0.f0), .int .i64 ((rd_T34 l0 x7_1).f0.f1)]] ?_
       with_reducible refine (impl_BlockOk.calls ((rd_T34 l0 x7_1).f0.f0) ((rd_T34 l0 x7_1).f0.f1) true _ A5.out).mono ?_
       rintro e w31 ⟨rfl, hb⟩
       refine ⟨_, rfl, ?_⟩
       replace BK288 := Aside0.mk (blk_below (g := gb288) (o := .cells #[.int .i64 ((rd_T34 l0 x7_1).f0.f0), .int .i64 ((rd_T34 l0 x7_1).f0.f1), .int .i64 ((rd_T34 l0 x7_1).f1)] 34 (0, 0)) (zz5 BK288) hb)
       replace HB := Aside0.mk (below_step (zz6 GE288) hb)
       (try clear hb)
       (try clear hb2)
       (try clear hk)
       (try clear hi)
       refine hK.out _ _ ⟨(blk_cell BK288.out 0).trans rfl, (blk_cell BK288.out 1).trans rfl, (blk_cell BK288.out 2).trans rfl⟩ (fun hHeld => ?_)
       clear hK K
       refine nm 14 ?_
       refine pu 3 15 (bm 26 15) ?_
       refine pu 4 16 (bm 26 31) ?_
       refine pu 5 17 (bm 26 63) ?_
       refine tk 6 18 (bm 26 127) ?_
       refine on 7 (some 19) (bm 26 255) (fun K hK => ?_)
       refine gs Tryz.func17 #[.int .i64 ((rd_T34 l0 x7_1).f1), .int .i64 0, .int .i64 99] ?_
       with_reducible refine (impl_in.calls ((rd_T34 l0 x7_1).f1) 0 99 true _ A7.out).mono ?_
       rintro e w' ⟨rfl, ⟨nd, rfl⟩⟩
       refine ⟨_, rfl, ?_⟩
       refine hK.out _ _ ⟨(blk_cell BK288.out 0).trans rfl, (blk_cell BK288.out 1).trans rfl, (blk_cell BK288.out 2).trans rfl⟩ (fun hHeld => ?_)
       clear hK K
       refine nm 19 ?_
       refine pu 8 20 (bm 26 511) ?_
       refine pu 9 21 (bm 26 1023) ?_
       refine pu 10 22 (bm 26 2047) ?_
       refine pu 11 23 (bm 26 4095) ?_
       refine pu 12 24 (bm 26 8191) ?_
       refine pu 13 25 (bm 26 16383) ?_
       refine po 14 26 (bm 26 32767) ?_
       refine po 15 27 (bm 26 65535) ?_
       refine po 16 28 (bm 26 131071) ?_
       refine po 17 29 (bm 26 262143) ?_
       refine po 18 30 (bm 26 524287) ?_
       refine po 19 31 (bm 26 1048575) ?_
       refine po 20 32 (bm 26 2097151) ?_
       refine po 21 33 (bm 26 4194303) ?_
       refine po 22 34 (bm 26 8388607) ?_
       refine po 23 35 (bm 26 16777215) ?_
       refine pu 24 36 (bm 26 33554431) ?_
       refine pu 25 37 (bm 26 67108863) ?_
       refine done_ (done_of HT_.out (by kernel_rfl)) ?_
       try go_wp2
       go_roundg k1
       case measure => have := HK1.out; omega
       case rel => exact ⟨(wrap64 (x7_1 + 1)), zz8, H', ⟨zz15 HK1⟩, ⟨zz6 GE288⟩⟩
     ·replace c8 := Bool.eq_false_iff.mpr c8
      subst c8
      have H1 : (some false) = some r := by rw [if_neg (show ¬ (false = true) by decide)] at H; exact H
      clear H
      have H := H1
      clear H1
      obtain rfl := Option.some.inj H
      obtain ⟨⟨ad287, e287, hx287_0, hx287_1, hx287_2⟩, p287, q287⟩ := wi (at_T34 HR0.out x7_1)
      cases e287
      replace hx287_0 := (HB.out.cell (World.block_lt_of_cell? w _ hx287_0)).trans hx287_0
      replace hx287_1 := (HB.out.cell (World.block_lt_of_cell? w _ hx287_1)).trans hx287_1
      replace hx287_2 := (HB.out.cell (World.block_lt_of_cell? w _ hx287_2)).trans hx287_2
      try go_wp2_with (first | (refine be 4 #[.int .i64 0, .int .i64 0, .int .i64 0] 34 ?_; intro gb288 hg w32 hbox hb; have BK288 := Aside0.mk hbox; have GW288 := Aside0.mk (zz16 : w.heap.size ≤ gb288); have GE288 := Aside0.mk (zz16 : w.heap.size ≤ gb288); replace HB := Aside0.mk (below_step zz3 hb); clear hb hbox hg; have hcz33_0 : w32.cell? ⟨gb288, 0, none⟩ = some (.int .i64 0) := (blk_cell BK288.out 0).trans rfl; have hcz33_1 : w32.cell? ⟨gb288, 1, none⟩ = some (.int .i64 0) := (blk_cell BK288.out 1).trans rfl; have hcz33_2 : w32.cell? ⟨gb288, 2, none⟩ = some (.int .i64 0) := (blk_cell BK288.out 2).trans rfl; have hfz33_0 := blk_frozen BK288.out 0; have hfz33_1 := blk_frozen BK288.out 1; have hfz33_2 := blk_frozen BK288.out 2))
      have n0_ : Aside0 ((((w32.setCell ⟨gb288, 0, none⟩ (.int .i64 ((rd_T34 l0 x7_1).f0.f0))).setCell ⟨gb288, 1, none⟩ (.int .i64 ((rd_T34 l0 x7_1).f0.f1))).setCell ⟨gb288, 2, none⟩ (.int .i64 ((rd_T34 l0 x7_1).f1))).heap[gb288]? = some (.cells #[.int .i64 ((rd_T34 l0 x7_1).f0.f0), .int .i64 ((rd_T34 l0 x7_1).f0.f1), .int .i64 ((rd_T34 l0 x7_1).f1)] 34 (0, 0))) := ⟨by (with_reducible repeat (first | refine blk_drewN ?_ _ | refine blk_drew ?_ | refine blk_alloc ?_ _)); refine blk_put (cs := #[.int .i64 ((rd_T34 l0 x7_1).f0.f0), .int .i64 ((rd_T34 l0 x7_1).f0.f1), .int .i64 0]) ?_ 2 _ rfl; (with_reducible repeat (first | refine blk_drewN ?_ _ | refine blk_drew ?_ | refine blk_alloc ?_ _)); refine blk_put (cs := #[.int .i64 ((rd_T34 l0 x7_1).f0.f0), .int .i64 0, .int .i64 0]) ?_ 1 _ rfl; (with_reducible repeat (first | refine blk_drewN ?_ _ | refine blk_drew ?_ | refine blk_alloc ?_ _)); refine blk_put (cs := #[.int .i64 0, .int .i64 0, .int .i64 0]) ?_ 0 _ rfl; (with_reducible repeat (first | refine blk_drewN ?_ _ | refine blk_drew ?_ | refine blk_alloc ?_ _)); exact BK288.out⟩
      have n1_ : Aside0 (Below w.heap.size w (((w32.setCell ⟨gb288, 0, none⟩ (.int .i64 ((rd_T34 l0 x7_1).f0.f0))).setCell ⟨gb288, 1, none⟩ (.int .i64 ((rd_T34 l0 x7_1).f0.f1))).setCell ⟨gb288, 2, none⟩ (.int .i64 ((rd_T34 l0 x7_1).f1)))) := ⟨zz6 GE288⟩
      (try clear BK288)
      (try clear HB)
      generalize (((w32.setCell ⟨gb288, 0, none⟩ (.int .i64 ((rd_T34 l0 x7_1).f0.f0))).setCell ⟨gb288, 1, none⟩ (.int .i64 ((rd_T34 l0 x7_1).f0.f1))).setCell ⟨gb288, 2, none⟩ (.int .i64 ((rd_T34 l0 x7_1).f1))) = w34 at n0_ n1_ ⊢
      have BK288 := n0_
      have HB := n1_
      clear n0_ n1_
      replace BK288 := Aside0.mk (blk_drew BK288.out)
      replace HB := Aside0.mk (below_drew1 HB.out)
      refine start_ (n := 26) (S := fun w' => w'.cell? ⟨gb288, 0, none⟩ = some (.int .i64 ((rd_T34 l0 x7_1).f0.f0)) ∧ w'.cell? ⟨gb288, 1, none⟩ = some (.int .i64 ((rd_T34 l0 x7_1).f0.f1)) ∧ w'.cell? ⟨gb288, 2, none⟩ = some (.int .i64 ((rd_T34 l0 x7_1).f1))) (ds := []) (bm 26 0) (by kernel_rfl) rfl rfl ⟨(blk_cell BK288.out 0).trans rfl, (blk_cell BK288.out 1).trans rfl, (blk_cell BK288.out 2).trans rfl⟩ (fun hHeld => ?_); refine with_tabW impl_WaysOk.tab4 impl_WaysOk.bits4 (fun HT_ HW_ => ?_)
      generalize w34.drew = w35 at BK288 HB hHeld ⊢
      refine pu 0 12 (bm 26 1) ?_
      refine tk 1 13 (bm 26 3) ?_
      refine on 2 (some 14) (bm 26 7) (fun K hK => ?_)
      refine gs Tryz.func40 #[.agg #[.int .i64 ((rd_T34 l0 x7_1).f0.f0), .int .i64 ((rd_T34 l0 x7_1).f0.f1)]] ?_
      with_reducible refine (impl_BlockOk.calls ((rd_T34 l0 x7_1).f0.f0) ((rd_T34 l0 x7_1).f0.f1) true _ A5.out).mono ?_
      rintro e w36 ⟨rfl, hb⟩
      refine ⟨_, rfl, ?_⟩
      replace BK288 := Aside0.mk (blk_below (g := gb288) (o := .cells #[.int .i64 ((rd_T34 l0 x7_1).f0.f0), .int .i64 ((rd_T34 l0 x7_1).f0.f1), .int .i64 ((rd_T34 l0 x7_1).f1)] 34 (0, 0)) (zz5 BK288) hb)
      replace HB := Aside0.mk (below_step (zz6 GE288) hb)
      (try clear hb)
      (try clear hb2)
      (try clear hk)
      (try clear hi)
      refine hK.out _ _ ⟨(blk_cell BK288.out 0).trans rfl, (blk_cell BK288.out 1).trans rfl, (blk_cell BK288.out 2).trans rfl⟩ (fun hHeld => ?_)
      clear hK K
      refine nm 14 ?_
      refine pu 3 15 (bm 26 15) ?_
      refine pu 4 16 (bm 26 31) ?_
      refine pu 5 17 (bm 26 63) ?_
      refine tk 6 18 (bm 26 127) ?_
      refine on 7 (some 19) (bm 26 255) (fun K hK => ?_)
      refine gs Tryz.func17 #[.int .i64 ((rd_T34 l0 x7_1).f1), .int .i64 0, .int .i64 99] ?_
      with_reducible refine (impl_in.calls ((rd_T34 l0 x7_1).f1) 0 99 false _ A7.out).mono ?_
      rintro e w' ⟨rfl, ⟨nd, rfl⟩⟩
      refine ⟨_, rfl, ?_⟩
      refine hK.out _ _ ⟨(blk_cell BK288.out 0).trans rfl, (blk_cell BK288.out 1).trans rfl, (blk_cell BK288.out 2).trans rfl⟩ (fun hHeld => ?_)
      clear hK K
      refine nm 19 ?_
      refine pu 8 20 (bm 26 511) ?_
      refine pu 9 21 (bm 26 1023) ?_
      refine pu 10 22 (bm 26 2047) ?_
      refine po 11 23 (bm 26 4095) ?_
      refine po 12 24 (bm 26 8191) ?_
      refine po 13 25 (bm 26 16383) ?_
      refine po 14 26 (bm 26 32767) ?_
      refine po 15 27 (bm 26 65535) ?_
      refine po 16 28 (bm 26 131071) ?_
      refine po 17 29 (bm 26 262143) ?_
      refine po 18 30 (bm 26 524287) ?_
      refine po 19 31 (bm 26 1048575) ?_
      refine po 20 32 (bm 26 2097151) ?_
      refine po 21 33 (bm 26 4194303) ?_
      refine po 22 34 (bm 26 8388607) ?_
      refine po 23 35 (bm 26 16777215) ?_
      refine po 24 36 (bm 26 33554431) ?_
      refine pu 25 37 (bm 26 67108863) ?_
      refine done_ (done_of HT_.out (by kernel_rfl)) ?_
      try go_wp2
      go_ret
      exact ⟨zz13, zz6 GE288⟩
    ·replace c6 := Bool.eq_false_iff.mpr c6
     subst c6
     have H1 : (some false) = some r := by rw [if_neg (show ¬ (false = true) by decide)] at H; exact H
     clear H
     have H := H1
     clear H1
     obtain rfl := Option.some.inj H
     obtain ⟨⟨ad287, e287, hx287_0, hx287_1, hx287_2⟩, p287, q287⟩ := wi (at_T34 HR0.out x7_1)
     cases e287
     replace hx287_0 := (HB.out.cell (World.block_lt_of_cell? w _ hx287_0)).trans hx287_0
     replace hx287_1 := (HB.out.cell (World.block_lt_of_cell? w _ hx287_1)).trans hx287_1
     replace hx287_2 := (HB.out.cell (World.block_lt_of_cell? w _ hx287_2)).trans hx287_2
     try go_wp2_with (first | (refine be 4 #[.int .i64 0, .int .i64 0, .int .i64 0] 34 ?_; intro gb288 hg w37 hbox hb; have BK288 := Aside0.mk hbox; have GW288 := Aside0.mk (zz16 : w.heap.size ≤ gb288); have GE288 := Aside0.mk (zz16 : w.heap.size ≤ gb288); replace HB := Aside0.mk (below_step zz3 hb); clear hb hbox hg; have hcz38_0 : w37.cell? ⟨gb288, 0, none⟩ = some (.int .i64 0) := (blk_cell BK288.out 0).trans rfl; have hcz38_1 : w37.cell? ⟨gb288, 1, none⟩ = some (.int .i64 0) := (blk_cell BK288.out 1).trans rfl; have hcz38_2 : w37.cell? ⟨gb288, 2, none⟩ = some (.int .i64 0) := (blk_cell BK288.out 2).trans rfl; have hfz38_0 := blk_frozen BK288.out 0; have hfz38_1 := blk_frozen BK288.out 1; have hfz38_2 := blk_frozen BK288.out 2))
     have n0_ : Aside0 ((((w37.setCell ⟨gb288, 0, none⟩ (.int .i64 ((rd_T34 l0 x7_1).f0.f0))).setCell ⟨gb288, 1, none⟩ (.int .i64 ((rd_T34 l0 x7_1).f0.f1))).setCell ⟨gb288, 2, none⟩ (.int .i64 ((rd_T34 l0 x7_1).f1))).heap[gb288]? = some (.cells #[.int .i64 ((rd_T34 l0 x7_1).f0.f0), .int .i64 ((rd_T34 l0 x7_1).f0.f1), .int .i64 ((rd_T34 l0 x7_1).f1)] 34 (0, 0))) := ⟨by (with_reducible repeat (first | refine blk_drewN ?_ _ | refine blk_drew ?_ | refine blk_alloc ?_ _)); refine blk_put (cs := #[.int .i64 ((rd_T34 l0 x7_1).f0.f0), .int .i64 ((rd_T34 l0 x7_1).f0.f1), .int .i64 0]) ?_ 2 _ rfl; (with_reducible repeat (first | refine blk_drewN ?_ _ | refine blk_drew ?_ | refine blk_alloc ?_ _)); refine blk_put (cs := #[.int .i64 ((rd_T34 l0 x7_1).f0.f0), .int .i64 0, .int .i64 0]) ?_ 1 _ rfl; (with_reducible repeat (first | refine blk_drewN ?_ _ | refine blk_drew ?_ | refine blk_alloc ?_ _)); refine blk_put (cs := #[.int .i64 0, .int .i64 0, .int .i64 0]) ?_ 0 _ rfl; (with_reducible repeat (first | refine blk_drewN ?_ _ | refine blk_drew ?_ | refine blk_alloc ?_ _)); exact BK288.out⟩
     have n1_ : Aside0 (Below w.heap.size w (((w37.setCell ⟨gb288, 0, none⟩ (.int .i64 ((rd_T34 l0 x7_1).f0.f0))).setCell ⟨gb288, 1, none⟩ (.int .i64 ((rd_T34 l0 x7_1).f0.f1))).setCell ⟨gb288, 2, none⟩ (.int .i64 ((rd_T34 l0 x7_1).f1)))) := ⟨zz6 GE288⟩
     (try clear BK288)
     (try clear HB)
     generalize (((w37.setCell ⟨gb288, 0, none⟩ (.int .i64 ((rd_T34 l0 x7_1).f0.f0))).setCell ⟨gb288, 1, none⟩ (.int .i64 ((rd_T34 l0 x7_1).f0.f1))).setCell ⟨gb288, 2, none⟩ (.int .i64 ((rd_T34 l0 x7_1).f1))) = w39 at n0_ n1_ ⊢
     have BK288 := n0_
     have HB := n1_
     clear n0_ n1_
     replace BK288 := Aside0.mk (blk_drew BK288.out)
     replace HB := Aside0.mk (below_drew1 HB.out)
     refine start_ (n := 26) (S := fun w' => w'.cell? ⟨gb288, 0, none⟩ = some (.int .i64 ((rd_T34 l0 x7_1).f0.f0)) ∧ w'.cell? ⟨gb288, 1, none⟩ = some (.int .i64 ((rd_T34 l0 x7_1).f0.f1)) ∧ w'.cell? ⟨gb288, 2, none⟩ = some (.int .i64 ((rd_T34 l0 x7_1).f1))) (ds := []) (bm 26 0) (by kernel_rfl) rfl rfl ⟨(blk_cell BK288.out 0).trans rfl, (blk_cell BK288.out 1).trans rfl, (blk_cell BK288.out 2).trans rfl⟩ (fun hHeld => ?_); refine with_tabW impl_WaysOk.tab4 impl_WaysOk.bits4 (fun HT_ HW_ => ?_)
     generalize w39.drew = w40 at BK288 HB hHeld ⊢
     refine pu 0 12 (bm 26 1) ?_
     refine tk 1 13 (bm 26 3) ?_
     refine on 2 (some 14) (bm 26 7) (fun K hK => ?_)
     refine gs Tryz.func40 #[.agg #[.int .i64 ((rd_T34 l0 x7_1).f0.f0), .int .i64 ((rd_T34 l0 x7_1).f0.f1)]] ?_
     with_reducible refine (impl_BlockOk.calls ((rd_T34 l0 x7_1).f0.f0) ((rd_T34 l0 x7_1).f0.f1) false _ A5.out).mono ?_
     rintro e w41 ⟨rfl, hb⟩
     refine ⟨_, rfl, ?_⟩
     replace BK288 := Aside0.mk (blk_below (g := gb288) (o := .cells #[.int .i64 ((rd_T34 l0 x7_1).f0.f0), .int .i64 ((rd_T34 l0 x7_1).f0.f1), .int .i64 ((rd_T34 l0 x7_1).f1)] 34 (0, 0)) (zz5 BK288) hb)
     replace HB := Aside0.mk (below_step (zz6 GE288) hb)
     (try clear hb)
     (try clear hb2)
     (try clear hk)
     (try clear hi)
     refine hK.out _ _ ⟨(blk_cell BK288.out 0).trans rfl, (blk_cell BK288.out 1).trans rfl, (blk_cell BK288.out 2).trans rfl⟩ (fun hHeld => ?_)
     clear hK K
     refine nm 14 ?_
     refine pu 3 15 (bm 26 15) ?_
     refine pu 4 16 (bm 26 31) ?_
     refine po 5 17 (bm 26 63) ?_
     refine po 6 18 (bm 26 127) ?_
     refine po 7 19 (bm 26 255) ?_
     refine po 8 20 (bm 26 511) ?_
     refine pu 9 21 (bm 26 1023) ?_
     refine pu 10 22 (bm 26 2047) ?_
     refine po 11 23 (bm 26 4095) ?_
     refine po 12 24 (bm 26 8191) ?_
     refine po 13 25 (bm 26 16383) ?_
     refine po 14 26 (bm 26 32767) ?_
     refine po 15 27 (bm 26 65535) ?_
     refine po 16 28 (bm 26 131071) ?_
     refine po 17 29 (bm 26 262143) ?_
     refine po 18 30 (bm 26 524287) ?_
     refine po 19 31 (bm 26 1048575) ?_
     refine po 20 32 (bm 26 2097151) ?_
     refine po 21 33 (bm 26 4194303) ?_
     refine po 22 34 (bm 26 8388607) ?_
     refine po 23 35 (bm 26 16777215) ?_
     refine po 24 36 (bm 26 33554431) ?_
     refine pu 25 37 (bm 26 67108863) ?_
     refine done_ (done_of HT_.out (by kernel_rfl)) ?_
     try go_wp2
     go_ret
     exact ⟨zz13, zz6 GE288⟩
   ·obtain rfl := Option.some.inj H
    go_wp2
    go_ret
    exact ⟨zz13, zz3⟩
end Go.Proofs.YthkjkmgbdahggaaGreat.PY
