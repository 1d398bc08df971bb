/- A text printed by this session's wip/myprint.py over the kit's print: contracts of functions of the given program, each at what its Lean function says. -/
import Derived.Test.YthkjkmgbdahggaaGreatPYx0
import Derived.Test.YthkjkmgbdahggaaGreatPYx1
import Derived.Test.YthkjkmgbdahggaaGreatPYx2
namespace Go.Proofs.YthkjkmgbdahggaaGreat.PY
open Go.RowKit Go.Proofs.YthkjkmgbdahggaaGreatW.PrintWords Go.Proofs.YthkjkmgbdahggaaGreatW.PrintLast Go.Proofs.YthkjkmgbdahggaaGreatW.PrintMore Go.Proofs.YthkjkmgbdahggaaGreat.Sq
attribute [local go_sem] max2_int min2_int max_two min_two max_three min_three max_four min_four   -- for this text's walks alone
set_option linter.unusedVariables false
set_option linter.unusedSimpArgs false
attribute [local go_sem high] eqA32
def spec_l3Copy.f (l0 : List (S34)) : Option ((List (S34))) := (some (([] : List (S34)) : List (S34))).bind fun y125 => (if y125.length + l0.length < 5864062014805 then (some (y125 ++ l0)) else (none))
set_option maxHeartbeats 8000000 in
set_option maxRecDepth 100000 in
theorem spec_l3Copy.calls (A0 : Option Addr) (c0 : Nat) (l0 : List (S34)) (r : List (S34)) (w : World) (hr0 : Kd.C k34 w A0 l0.length l0) (hc0 : l0.length ≤ c0) (h : spec_l3Copy.f l0 = some r) :
  Calls Tryz.prog 70 #[.slice A0 l0.length c0] w fun e w' => ∃ v0_ : Value, e = .returned (v0_) ∧ Kd.R k34 34 w' w.heap.size (fun _ => True) v0_ r ∧ Below w.heap.size w w' := by
 have HR0 := Aside0.mk hr0
 have HC0 := Aside0.mk hc0
 clear hr0 hc0
 have HB := Aside0.mk (Below.refl w.heap.size w)
 have H : ((some (([] : List (S34)) : List (S34))).bind fun y125 => (if y125.length + l0.length < 5864062014805 then (some (y125 ++ l0)) else (none))) = some r := h
 clear h
 obtain ⟨y125, hy125⟩ : ∃ y_ : List (S34), y_ = (([] : List (S34))) := ⟨_, rfl⟩
 replace H : (if y125.length + l0.length < 5864062014805 then (some (y125 ++ l0)) else (none)) = some r := by first | (rw [hy125]; with_reducible exact H) | (have H2_ := (Option.bind_some _ _).symm.trans H; rw [hy125]; with_reducible exact H2_) | (have H2_ := (Option.bind_some _ _).symm.trans H; with_reducible exact H2_) | with_reducible exact H | (rw [hy125]; exact H) | exact H
 have Ny125 := Aside0.mk hy125
 clear hy125
 by_cases c2 : y125.length + l0.length < 5864062014805
 ·rw [if_pos c2] at H
  have LMc2 := Aside0.mk c2
  clear c2
  obtain ⟨y128, hy128⟩ : ∃ y_ : List (S34), y_ = (y125 ++ l0) := ⟨_, rfl⟩
  replace H : (some y128) = some r := by first | (rw [hy128]; with_reducible exact H) | (have H2_ := (Option.bind_some _ _).symm.trans H; rw [hy128]; with_reducible exact H2_) | (have H2_ := (Option.bind_some _ _).symm.trans H; with_reducible exact H2_) | with_reducible exact H | (rw [hy128]; exact H) | exact H
  have Ny128 := Aside0.mk hy128
  clear hy128
  obtain rfl := Option.some.inj H
  go_enter Tryz.func70, Tryz.ntmps70
  go_wp2_with (first | (refine gt 3 ?_; refine rl k34 34 3 ([] : List (S34)) [] ?hp ?_; (case hp => exact zz19); intro v126 w3 ho4 hb hg_ hnew_; clear hg_ hnew_; (first | rw [← Ny125.out] at ho4 | (simp only [Int.reduceToNat] at ho4; rw [← Ny125.out] at ho4)); have HO127 := Aside0.mk (Kd.R_lower ho4 (below_size zz3)); replace HB := Aside0.mk (below_step zz3 hb); clear hb ho4) | ((with_reducible refine gate_builtin (b := .append) (xs := #[.tmp 3, .tmp 4]) rfl ?_); at_builtin; refine Kd.R_append_rows k34 (w0 := w) w.heap.size rfl (.tmp 3) (.tmp 4) 23 34 (.agg #[(.int .i64 0), (.int .i64 0), (.int .i64 0)]) 24 rfl Tryz.underlying23 info34 rfl (by decide) (by omega) v126 y125 l0 _ _ _ (fun _ => True) (fun _ => False) rfl rfl ?aO ?aR (fun _ _ h => h) (fun _ h => h.elim) ?aF ?aB ?aS ?aL ?_; (case aR => exact zz20 HR0); (case aB => exact zz3); (case aF => exact zz21); (case aO => exact zz22 HO127); (case aS => exact zz23); (case aL => exact zz15 LMc2); intro v129 w5 ho hb hg hat; rw [← Ny128.out] at ho; replace HB := Aside0.mk hb; have HO130 := Aside0.mk ho; clear HO127 ho hb hg hat))
  go_ret
  exact ⟨_, zz13, zz22 HO130, zz3⟩
 ·rw [if_neg c2] at H
  exact absurd H (by simp)
def spec_l3At.l0 : Nat → List (S34) → Int → Int → Int → Option (Int × Bool)
 | 0, _, _, _, _ => none
 | k + 1, x0, x6, x132000, x132001 => if x6 < (x0.length : Int) then (if 0 ≤ x6 then ((spec_l3Cmp.f ((rd_T34 x0 x6).f0.f0) ((rd_T34 x0 x6).f0.f1) x132000 x132001).bind fun t133 => (if t133 < 0 then (spec_l3At.l0 k x0 (wrap64 (x6 + 1)) x132000 x132001) else (some (x6, (((rd_T34 x0 x6).f0.f0) == x132000 && (((rd_T34 x0 x6).f0.f1) == x132001)))))) else (none)) else (some (x6, false))
def spec_l3At.f (k : Nat) (l0 : List (S34)) (a1_0 : Int) (a1_1 : Int) : Option (Int × Bool) := spec_l3At.l0 k l0 0 a1_0 a1_1
def spec_l3At.T2 : Bool × List (List Nat × List Nat) := (true, [([], []), ([], []), ([1], [1]), ([0, 2], [0, 2]), ([3], [3]), ([4], [4]), ([4], [4]), ([5, 6, 4], [4, 5, 6]), ([7, 4], [4, 7]), ([8, 4], [4, 8]), ([4], [4]), ([9, 10, 4, 4], [4, 9, 10]), ([11, 4], [4, 11]), ([4, 12], [4, 12])])
def spec_l3At.B2 : List Nat := [0, 0, 2, 7, 15, 31, 31, 127, 255, 511, 31, 2047, 4095, 8191]
theorem spec_l3At.tab2 : rtab .any (opsOf Tryz.f71 2) = spec_l3At.T2 := by kernel_rfl
theorem spec_l3At.bits2 : waitsOk spec_l3At.T2.2 spec_l3At.B2 = true := by kernel_rfl
def spec_l3At.T4 : Bool × List (List Nat × List Nat) := (true, [([], []), ([], []), ([], []), ([2], [2]), ([1, 3], [1, 3]), ([4], [4]), ([5], [5]), ([5], [5]), ([6, 7, 5], [5, 6, 7]), ([8, 5], [5, 8]), ([9, 5], [5, 9]), ([5], [5]), ([10, 11, 5], [5, 10, 11]), ([5, 12], [5, 12]), ([0, 5, 0], [0]), ([13, 14, 0, 1, 2, 3, 4, 5, 6, 7, 8, 9, 10, 11, 12, 13, 14], [13])])
def spec_l3At.B4 : List Nat := [0, 0, 0, 4, 14, 30, 62, 62, 254, 510, 1022, 62, 4094, 8190, 63, 32767]
theorem spec_l3At.tab4 : rtab .any (opsOf Tryz.f71 4) = spec_l3At.T4 := by kernel_rfl
theorem spec_l3At.bits4 : waitsOk spec_l3At.T4.2 spec_l3At.B4 = true := by kernel_rfl
set_option maxHeartbeats 8000000 in
set_option maxRecDepth 100000 in
theorem spec_l3At.calls (k : Nat) (A0 : Option Addr) (c0 : Nat) (l0 : List (S34)) (a1_0 : Int) (a1_1 : Int) (r1 : Int) (r2 : Bool) (w : World) (hr0 : Kd.C k34 w A0 l0.length l0) (hc0 : l0.length ≤ c0) (h : spec_l3At.f k l0 a1_0 a1_1 = some (r1, r2)) :
  Calls Tryz.prog 71 #[.slice A0 l0.length c0, .agg #[.int .i64 a1_0, .int .i64 a1_1]] w fun e w' => e = .returned (.tuple #[.int .i64 r1, .bool r2]) ∧ Below w.heap.size w w' := by
 have hu32 := Tryz.underlying32
 have HR0 := Aside0.mk hr0
 have HC0 := Aside0.mk hc0
 clear hr0 hc0
 have HB := Aside0.mk (Below.refl w.heap.size w)
 have H : (spec_l3At.l0 k l0 0 a1_0 a1_1) = some (r1, r2) := h
 clear h
 have H' := Aside0.mk H
 clear H
 go_enter Tryz.func71, Tryz.ntmps71
 go_wp2_with (first | (refine be 3 #[.int .i64 a1_0, .int .i64 a1_1] 32 ?_; intro gb131 hg w3 hbox hb; have BK131 := Aside0.mk hbox; have GW131 := Aside0.mk (zz16 : w.heap.size ≤ gb131); have GE131 := Aside0.mk (zz16 : w.heap.size ≤ gb131); replace HB := Aside0.mk (below_step zz3 hb); clear hb hbox hg))
 go_loopg [6] k (fun kq v6 w' => ∃ (x6_1 : Int), v6 = .int .i64 x6_1 ∧ Aside0 (spec_l3At.l0 kq l0 x6_1 a1_0 a1_1 = some (r1, r2)) ∧ Aside0 (kq ≤ k) ∧ Aside0 (w'.heap[gb131]? = some (.cells #[.int .i64 a1_0, .int .i64 a1_1] 32 (0, 0))) ∧ Aside0 (Below w.heap.size w w'))
 case atStart => exact ⟨(0), zz8, H', ⟨Nat.le_refl _⟩, ⟨zz5 BK131⟩, ⟨zz6 GE131⟩⟩
 case round =>
  clear H'
  try clear p2
  obtain ⟨x6_1, rfl, HA, HK1, BK131, HB⟩ := hrel
  cases gk with
  | zero => exact absurd HA.out (by simp [spec_l3At.l0])
  | succ k1 =>
   have H := HA.out
   clear HA
   simp only [spec_l3At.l0] at H
   replace H := ic H
   rcases H with ⟨c4b0, H⟩ | ⟨c4b0, H⟩
   ·replace H := gd H
    obtain ⟨c5b0, H⟩ := H
    replace H := bd H
    obtain ⟨t133, A6, H⟩ := H
    replace H : (if t133 < 0 then (spec_l3At.l0 k1 l0 (wrap64 (x6_1 + 1)) a1_0 a1_1) else (some (x6_1, (((rd_T34 l0 x6_1).f0.f0) == a1_0 && (((rd_T34 l0 x6_1).f0.f1) == a1_1))))) = some (r1, r2) := H
    replace H := ic H
    rcases H with ⟨c7b0, H⟩ | ⟨c7b0, H⟩
    ·have H' := Aside0.mk H
     clear H
     try go_wp2
     replace BK131 := Aside0.mk (blk_drew BK131.out)
     replace HB := Aside0.mk (below_drew1 HB.out)
     obtain ⟨⟨ad132, e132, hx132_0, hx132_1, hx132_2⟩, p132, q132⟩ := wi (at_T34 HR0.out x6_1)
     have hw132_2 := hx132_2
     have hw132_1 := hx132_1
     have hw132_0 := hx132_0
     cases e132
     replace hx132_0 := (HB.out.cell (World.block_lt_of_cell? w _ hx132_0)).trans hx132_0
     replace hx132_1 := (HB.out.cell (World.block_lt_of_cell? w _ hx132_1)).trans hx132_1
     replace hx132_2 := (HB.out.cell (World.block_lt_of_cell? w _ hx132_2)).trans hx132_2
     refine start_ (n := 14) (S := fun w' => w'.cell? ⟨gb131, 0, none⟩ = some (.int .i64 a1_0) ∧ w'.cell? ⟨gb131, 1, none⟩ = some (.int .i64 a1_1) ∧ w'.cell? (ad132.add ((x6_1).toNat * 3)) = some (.int .i64 ((rd_T34 l0 x6_1).f0.f0)) ∧ w'.cell? ⟨(ad132.add ((x6_1).toNat * 3)).block, (ad132.add ((x6_1).toNat * 3)).off + 1, none⟩ = some (.int .i64 ((rd_T34 l0 x6_1).f0.f1)) ∧ w'.cell? ⟨(ad132.add ((x6_1).toNat * 3)).block, (ad132.add ((x6_1).toNat * 3)).off + 2, none⟩ = some (.int .i64 ((rd_T34 l0 x6_1).f1))) (ds := []) (bm 14 0) (by kernel_rfl) rfl rfl ⟨(blk_cell BK131.out 0).trans rfl, (blk_cell BK131.out 1).trans rfl, ((HB.out.cell (World.block_lt_of_cell? w _ hw132_0)).trans hw132_0), ((HB.out.cell (World.block_lt_of_cell? w _ hw132_1)).trans hw132_1), ((HB.out.cell (World.block_lt_of_cell? w _ hw132_2)).trans hw132_2)⟩ (fun hHeld => ?_); refine with_tabW spec_l3At.tab2 spec_l3At.bits2 (fun HT_ HW_ => ?_)
     generalize wr.drew = w8 at BK131 HB hx132_0 hx132_1 hx132_2 hHeld ⊢
     refine pu 0 7 (bm 14 1) ?_
     refine pu 1 8 (bm 14 3) ?_
     refine pu 2 9 (bm 14 7) ?_
     refine pu 3 10 (bm 14 15) ?_
     refine pu 4 11 (bm 14 31) ?_
     refine pu 5 12 (bm 14 63) ?_
     refine pu 6 13 (bm 14 127) ?_
     refine pu 7 14 (bm 14 255) ?_
     refine pu 8 15 (bm 14 511) ?_
     refine tk 9 16 (bm 14 1023) ?_
     refine tk 10 17 (bm 14 2047) ?_
     refine on 11 (some 18) (bm 14 4095) (fun K hK => ?_)
     refine gs Tryz.func48 #[.agg #[.int .i64 ((rd_T34 l0 x6_1).f0.f0), .int .i64 ((rd_T34 l0 x6_1).f0.f1)], .agg #[.int .i64 a1_0, .int .i64 a1_1]] ?_
     with_reducible refine (spec_l3Cmp.calls ((rd_T34 l0 x6_1).f0.f0) ((rd_T34 l0 x6_1).f0.f1) a1_0 a1_1 t133 _ A6.out).mono ?_
     rintro e w9 ⟨rfl, hb⟩
     refine ⟨_, rfl, ?_⟩
     replace BK131 := Aside0.mk (blk_below (g := gb131) (o := .cells #[.int .i64 a1_0, .int .i64 a1_1] 32 (0, 0)) (zz5 BK131) hb)
     replace HB := Aside0.mk (below_step (zz6 GE131) hb)
     (try clear hb)
     (try clear hb2)
     (try clear hk)
     (try clear hi)
     refine hK.out _ _ ⟨(blk_cell BK131.out 0).trans rfl, (blk_cell BK131.out 1).trans rfl, ((HB.out.cell (World.block_lt_of_cell? w _ hw132_0)).trans hw132_0), ((HB.out.cell (World.block_lt_of_cell? w _ hw132_1)).trans hw132_1), ((HB.out.cell (World.block_lt_of_cell? w _ hw132_2)).trans hw132_2)⟩ (fun hHeld => ?_)
     clear hK K
     refine nm 18 ?_
     refine pu 12 19 (bm 14 8191) ?_
     refine pu 13 20 (bm 14 16383) ?_
     refine done_ (done_of HT_.out (by kernel_rfl)) ?_
     try go_wp2
     go_roundg k1
     case measure => have := HK1.out; omega
     case rel => exact ⟨(wrap64 (x6_1 + 1)), zz8, H', ⟨zz15 HK1⟩, ⟨zz5 BK131⟩, ⟨zz6 GE131⟩⟩
    ·simp only [Option.some.injEq, Prod.mk.injEq] at H
     obtain ⟨rfl, rfl⟩ := H
     try go_wp2
     replace BK131 := Aside0.mk (blk_drew BK131.out)
     replace HB := Aside0.mk (below_drew1 HB.out)
     obtain ⟨⟨ad132, e132, hx132_0, hx132_1, hx132_2⟩, p132, q132⟩ := wi (at_T34 HR0.out x6_1)
     have hw132_2 := hx132_2
     have hw132_1 := hx132_1
     have hw132_0 := hx132_0
     cases e132
     replace hx132_0 := (HB.out.cell (World.block_lt_of_cell? w _ hx132_0)).trans hx132_0
     replace hx132_1 := (HB.out.cell (World.block_lt_of_cell? w _ hx132_1)).trans hx132_1
     replace hx132_2 := (HB.out.cell (World.block_lt_of_cell? w _ hx132_2)).trans hx132_2
     refine start_ (n := 14) (S := fun w' => w'.cell? ⟨gb131, 0, none⟩ = some (.int .i64 a1_0) ∧ w'.cell? ⟨gb131, 1, none⟩ = some (.int .i64 a1_1) ∧ w'.cell? (ad132.add ((x6_1).toNat * 3)) = some (.int .i64 ((rd_T34 l0 x6_1).f0.f0)) ∧ w'.cell? ⟨(ad132.add ((x6_1).toNat * 3)).block, (ad132.add ((x6_1).toNat * 3)).off + 1, none⟩ = some (.int .i64 ((rd_T34 l0 x6_1).f0.f1)) ∧ w'.cell? ⟨(ad132.add ((x6_1).toNat * 3)).block, (ad132.add ((x6_1).toNat * 3)).off + 2, none⟩ = some (.int .i64 ((rd_T34 l0 x6_1).f1))) (ds := []) (bm 14 0) (by kernel_rfl) rfl rfl ⟨(blk_cell BK131.out 0).trans rfl, (blk_cell BK131.out 1).trans rfl, ((HB.out.cell (World.block_lt_of_cell? w _ hw132_0)).trans hw132_0), ((HB.out.cell (World.block_lt_of_cell? w _ hw132_1)).trans hw132_1), ((HB.out.cell (World.block_lt_of_cell? w _ hw132_2)).trans hw132_2)⟩ (fun hHeld => ?_); refine with_tabW spec_l3At.tab2 spec_l3At.bits2 (fun HT_ HW_ => ?_)
     generalize wr.drew = w10 at BK131 HB hx132_0 hx132_1 hx132_2 hHeld ⊢
     refine pu 0 7 (bm 14 1) ?_
     refine pu 1 8 (bm 14 3) ?_
     refine pu 2 9 (bm 14 7) ?_
     refine pu 3 10 (bm 14 15) ?_
     refine pu 4 11 (bm 14 31) ?_
     refine pu 5 12 (bm 14 63) ?_
     refine pu 6 13 (bm 14 127) ?_
     refine pu 7 14 (bm 14 255) ?_
     refine pu 8 15 (bm 14 511) ?_
     refine tk 9 16 (bm 14 1023) ?_
     refine tk 10 17 (bm 14 2047) ?_
     refine on 11 (some 18) (bm 14 4095) (fun K hK => ?_)
     refine gs Tryz.func48 #[.agg #[.int .i64 ((rd_T34 l0 x6_1).f0.f0), .int .i64 ((rd_T34 l0 x6_1).f0.f1)], .agg #[.int .i64 a1_0, .int .i64 a1_1]] ?_
     with_reducible refine (spec_l3Cmp.calls ((rd_T34 l0 x6_1).f0.f0) ((rd_T34 l0 x6_1).f0.f1) a1_0 a1_1 t133 _ A6.out).mono ?_
     rintro e w11 ⟨rfl, hb⟩
     refine ⟨_, rfl, ?_⟩
     replace BK131 := Aside0.mk (blk_below (g := gb131) (o := .cells #[.int .i64 a1_0, .int .i64 a1_1] 32 (0, 0)) (zz5 BK131) hb)
     replace HB := Aside0.mk (below_step (zz6 GE131) hb)
     (try clear hb)
     (try clear hb2)
     (try clear hk)
     (try clear hi)
     refine hK.out _ _ ⟨(blk_cell BK131.out 0).trans rfl, (blk_cell BK131.out 1).trans rfl, ((HB.out.cell (World.block_lt_of_cell? w _ hw132_0)).trans hw132_0), ((HB.out.cell (World.block_lt_of_cell? w _ hw132_1)).trans hw132_1), ((HB.out.cell (World.block_lt_of_cell? w _ hw132_2)).trans hw132_2)⟩ (fun hHeld => ?_)
     clear hK K
     refine nm 18 ?_
     refine pu 12 19 (bm 14 8191) ?_
     refine pu 13 20 (bm 14 16383) ?_
     refine done_ (done_of HT_.out (by kernel_rfl)) ?_
     try go_wp2
     replace BK131 := Aside0.mk (blk_drew BK131.out)
     replace HB := Aside0.mk (below_drew1 HB.out)
     obtain ⟨⟨ad134, e134, hx134_0, hx134_1, hx134_2⟩, p134, q134⟩ := wi (at_T34 HR0.out x6_1)
     have hw134_2 := hx134_2
     have hw134_1 := hx134_1
     have hw134_0 := hx134_0
     obtain rfl : ad132 = ad134 := (by injection e134)
     replace hx134_0 := (HB.out.cell (World.block_lt_of_cell? w _ hx134_0)).trans hx134_0
     replace hx134_1 := (HB.out.cell (World.block_lt_of_cell? w _ hx134_1)).trans hx134_1
     replace hx134_2 := (HB.out.cell (World.block_lt_of_cell? w _ hx134_2)).trans hx134_2
     refine start_ (n := 16) (S := fun w' => w'.cell? ⟨gb131, 0, none⟩ = some (.int .i64 a1_0) ∧ w'.cell? ⟨gb131, 1, none⟩ = some (.int .i64 a1_1) ∧ w'.cell? (ad132.add ((x6_1).toNat * 3)) = some (.int .i64 ((rd_T34 l0 x6_1).f0.f0)) ∧ w'.cell? ⟨(ad132.add ((x6_1).toNat * 3)).block, (ad132.add ((x6_1).toNat * 3)).off + 1, none⟩ = some (.int .i64 ((rd_T34 l0 x6_1).f0.f1)) ∧ w'.cell? ⟨(ad132.add ((x6_1).toNat * 3)).block, (ad132.add ((x6_1).toNat * 3)).off + 2, none⟩ = some (.int .i64 ((rd_T34 l0 x6_1).f1))) (ds := []) (bm 16 0) (by kernel_rfl) rfl rfl ⟨(blk_cell BK131.out 0).trans rfl, (blk_cell BK131.out 1).trans rfl, ((HB.out.cell (World.block_lt_of_cell? w _ hw134_0)).trans hw134_0), ((HB.out.cell (World.block_lt_of_cell? w _ hw134_1)).trans hw134_1), ((HB.out.cell (World.block_lt_of_cell? w _ hw134_2)).trans hw134_2)⟩ (fun hHeld => ?_); refine with_tabW spec_l3At.tab4 spec_l3At.bits4 (fun HT_ HW_ => ?_)
     generalize w11.drew = w12 at BK131 HB hx134_0 hx134_1 hx134_2 hHeld ⊢
     refine pu 0 23 (bm 16 1) ?_
     refine pu 1 24 (bm 16 3) ?_
     refine pu 2 25 (bm 16 7) ?_
     refine pu 3 26 (bm 16 15) ?_
     refine pu 4 27 (bm 16 31) ?_
     refine pu 5 28 (bm 16 63) ?_
     refine pu 6 29 (bm 16 127) ?_
     refine pu 7 30 (bm 16 255) ?_
     refine pu 8 31 (bm 16 511) ?_
     refine pu 9 32 (bm 16 1023) ?_
     refine pu 14 4 (bm 16 17407) ?_
     refine tk 10 33 (bm 16 18431) ?_
     refine tk 11 34 (bm 16 20479) ?_
     refine pu 12 35 (bm 16 24575) ?_
     refine pu 13 36 (bm 16 32767) ?_
     refine pu 15 5 (bm 16 65535) ?_
     refine done_ (done_of HT_.out (by kernel_rfl)) ?_
     try go_wp2
     go_ret2
     exact ⟨zz13, zz6 GE131⟩
   ·simp only [Option.some.injEq, Prod.mk.injEq] at H
    obtain ⟨rfl, rfl⟩ := H
    try go_wp2
    replace BK131 := Aside0.mk (blk_drew BK131.out)
    replace HB := Aside0.mk (below_drew1 HB.out)
    refine start_ (n := 14) (S := fun w' => True) (ds := []) (bm 14 0) (by kernel_rfl) rfl rfl trivial (fun hHeld => ?_); refine with_tabW spec_l3At.tab2 spec_l3At.bits2 (fun HT_ HW_ => ?_)
    generalize wr.drew = w13 at BK131 HB hHeld ⊢
    refine pu 0 7 (bm 14 1) ?_
    refine pu 1 8 (bm 14 3) ?_
    refine pu 2 9 (bm 14 7) ?_
    refine pu 3 10 (bm 14 15) ?_
    refine pu 4 11 (bm 14 31) ?_
    refine po 5 12 (bm 14 63) ?_
    refine po 6 13 (bm 14 127) ?_
    refine po 7 14 (bm 14 255) ?_
    refine po 8 15 (bm 14 511) ?_
    refine po 9 16 (bm 14 1023) ?_
    refine po 10 17 (bm 14 2047) ?_
    refine po 11 18 (bm 14 4095) ?_
    refine po 12 19 (bm 14 8191) ?_
    refine pu 13 20 (bm 14 16383) ?_
    refine done_ (done_of HT_.out (by kernel_rfl)) ?_
    try go_wp2
    replace BK131 := Aside0.mk (blk_drew BK131.out)
    replace HB := Aside0.mk (below_drew1 HB.out)
    refine start_ (n := 16) (S := fun w' => True) (ds := []) (bm 16 0) (by kernel_rfl) rfl rfl trivial (fun hHeld => ?_); refine with_tabW spec_l3At.tab4 spec_l3At.bits4 (fun HT_ HW_ => ?_)
    generalize w13.drew = w14 at BK131 HB hHeld ⊢
    refine pu 0 23 (bm 16 1) ?_
    refine pu 1 24 (bm 16 3) ?_
    refine pu 2 25 (bm 16 7) ?_
    refine pu 3 26 (bm 16 15) ?_
    refine pu 4 27 (bm 16 31) ?_
    refine pu 5 28 (bm 16 63) ?_
    refine po 6 29 (bm 16 127) ?_
    refine po 7 30 (bm 16 255) ?_
    refine po 8 31 (bm 16 511) ?_
    refine po 9 32 (bm 16 1023) ?_
    refine po 10 33 (bm 16 2047) ?_
    refine po 11 34 (bm 16 4095) ?_
    refine po 12 35 (bm 16 8191) ?_
    refine pu 13 36 (bm 16 16383) ?_
    refine pu 14 4 (bm 16 32767) ?_
    refine pu 15 5 (bm 16 65535) ?_
    refine done_ (done_of HT_.out (by kernel_rfl)) ?_
    try go_wp2
    go_ret2
    exact ⟨zz13, zz6 GE131⟩
end Go.Proofs.YthkjkmgbdahggaaGreat.PY
