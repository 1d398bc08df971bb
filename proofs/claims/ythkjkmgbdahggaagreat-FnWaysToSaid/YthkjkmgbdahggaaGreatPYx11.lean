/- A text printed by this session's wip/myprint.py over the kit's print: contracts of functions of the given program, each at what its Lean function says. -/
import Derived.Test.YthkjkmgbdahggaaGreatPYx0
import Derived.Test.YthkjkmgbdahggaaGreatPYx10
namespace Go.Proofs.YthkjkmgbdahggaaGreat.PY
open Go.RowKit Go.Proofs.YthkjkmgbdahggaaGreatW.PrintWords Go.Proofs.YthkjkmgbdahggaaGreatW.PrintLast Go.Proofs.YthkjkmgbdahggaaGreatW.PrintMore Go.Proofs.YthkjkmgbdahggaaGreat.Sq
attribute [local go_sem] max2_int min2_int max_two min_two max_three min_three max_four min_four   -- for this text's walks alone
set_option linter.unusedVariables false
set_option linter.unusedSimpArgs false
def impl_union.l0 : Nat → List (S50) → List (S50) → Int → Int → Option ((List (S50)))
 | 0, _, _, _, _ => none
 | k + 1, x4, x11, x12, x13 => if x13 < x12 then (if 0 ≤ x13 then (if x13 < (x11.length : Int) then (if (x4.length : Int) > 0 then (if 0 ≤ (wrap64 ((x4.length : Int) - 1)) then (if (wrap64 ((x4.length : Int) - 1)) < (x4.length : Int) then (if ((rd_T50 x11 x13).f0) ≤ (wrap64 (((rd_T50 x4 (wrap64 ((x4.length : Int) - 1))).f1) + 1)) then (impl_union.l0 k (x4.set ((wrap64 ((x4.length : Int) - 1)) : Int).toNat (⟨(rd_T50 x4 (wrap64 ((x4.length : Int) - 1))).f0, mx ((rd_T50 x4 (wrap64 ((x4.length : Int) - 1))).f1) ((rd_T50 x11 x13).f1)⟩ : S50)) x11 x12 (wrap64 (x13 + 1))) else (if x4.length < 8796093022208 then (impl_union.l0 k (x4 ++ [(⟨(rd_T50 x11 x13).f0, (rd_T50 x11 x13).f1⟩ : S50)]) x11 x12 (wrap64 (x13 + 1))) else (none))) else (none)) else (none)) else (if x4.length < 8796093022208 then (impl_union.l0 k (x4 ++ [(⟨(rd_T50 x11 x13).f0, (rd_T50 x11 x13).f1⟩ : S50)]) x11 x12 (wrap64 (x13 + 1))) else (none))) else (none)) else (none)) else (some x4)
def impl_union.f (k : Nat) (l0 : List (S50)) : Option ((List (S50))) := (impl_span_62.f l0).bind fun t338 => (impl_union.l0 k ([] : List (S50)) t338 (t338.length : Int) 0)
def impl_union.T7 : Bool × List (List Nat × List Nat) := (true, [([], []), ([0], [0]), ([1], [1]), ([2], [2]), ([3, 2], [2, 3]), ([2], [2]), ([2], [2]), ([6, 2], [2, 6]), ([5, 7, 2], [2, 5, 7]), ([8, 2], [2, 8]), ([9, 2], [2, 9]), ([10, 2], [2, 10]), ([4, 11, 2], [2, 4, 11]), ([2, 12], [2, 12])])
def impl_union.B7 : List Nat := [0, 1, 3, 7, 15, 7, 7, 71, 231, 487, 999, 2023, 4095, 8191]
theorem impl_union.tab7 : rtab .any (opsOf Tryz.f45 7) = impl_union.T7 := by kernel_rfl
theorem impl_union.bits7 : waitsOk impl_union.T7.2 impl_union.B7 = true := by kernel_rfl
def impl_union.T8 : Bool × List (List Nat × List Nat) := (true, [([], []), ([], []), ([1], [1]), ([], []), ([], []), ([4], [4]), ([3, 5], [3, 5]), ([6], [6]), ([7], [7]), ([], []), ([9], [9]), ([8, 10], [8, 10]), ([0, 2, 0, 1, 2, 3, 4, 5, 6, 7, 8, 9, 10, 11], [0, 2]), ([12, 0, 1, 2, 3, 4, 5, 6, 7, 8, 9, 10, 11], [12]), ([13, 11, 0, 1, 2, 3, 4, 5, 6, 7, 8, 9, 10, 11], [11, 13])])
def impl_union.B8 : List Nat := [0, 0, 2, 0, 0, 16, 56, 120, 248, 0, 512, 2040, 4095, 8191, 16383]
theorem impl_union.tab8 : rtab .any (opsOf Tryz.f45 8) = impl_union.T8 := by kernel_rfl
theorem impl_union.bits8 : waitsOk impl_union.T8.2 impl_union.B8 = true := by kernel_rfl
set_option maxHeartbeats 8000000 in
set_option maxRecDepth 100000 in
theorem impl_union.calls (k : Nat) (A0 : Option Addr) (c0 : Nat) (l0 : List (S50)) (r : List (S50)) (w : World) (hr0 : Kd.C k50 w A0 l0.length l0) (hc0 : l0.length ≤ c0) (h : impl_union.f k l0 = some r) :
  Calls Tryz.prog 45 #[.slice A0 l0.length c0] w fun e w' => ∃ v0_ : Value, e = .returned (v0_) ∧ Kd.R k50 50 w' w.heap.size (fun _ => True) v0_ r ∧ Below w.heap.size w w' := by
 have hu50 := Tryz.underlying50
 have HR0 := Aside0.mk hr0
 have HC0 := Aside0.mk hc0
 clear hr0 hc0
 have HB := Aside0.mk (Below.refl w.heap.size w)
 have H : ((impl_span_62.f l0).bind fun t338 => (impl_union.l0 k ([] : List (S50)) t338 (t338.length : Int) 0)) = some r := h
 clear h
 replace H := bd H
 obtain ⟨t338, A2, H⟩ := H
 replace H : (impl_union.l0 k ([] : List (S50)) t338 (t338.length : Int) 0) = some r := H
 have H' := Aside0.mk H
 clear H
 go_enter Tryz.func45, Tryz.ntmps45
 go_wp2_with (first | (go_at_call 63; refine (Go.Proofs.YthkjkmgbdahggaaGreat.Srt.values _ _ _ _).mono ?_; rintro e w' ⟨rfl, rfl⟩) | (go_at_call 62; (with_reducible refine (impl_span_62.calls _ _ l0 t338 _ ?side1 ?side2 A2.out).mono ?_); (case side1 => exact zz49 HR0); (case side2 => exact HC0.out); rintro e w3 ⟨v339, rfl, ho0, hb⟩; have HO340 := Aside0.mk (Kd.R_lower ho0 (below_size zz3)); replace HB := Aside0.mk (below_step zz3 hb); clear hb ho0; obtain ⟨Ao4, co4, eo4⟩ := Kd.R_slice HO340.out; subst eo4))
 go_loopg [4, 13] k (fun kq v4 v13 w' => ∃ (x4_1 : List (S50)) (x11_1 : List (S50)) (x13_1 : Int), v13 = .int .i64 x13_1 ∧ Aside0 (impl_union.l0 kq x4_1 x11_1 (t338.length : Int) x13_1 = some r) ∧ Aside0 (kq ≤ k) ∧ Aside0 (Kd.R k50 50 w' w.heap.size (fun k_ => some k_ ≠ ((.slice Ao4 t338.length co4) : Value).ownBlock) v4 x4_1) ∧ Aside0 (Kd.R k50 50 w' w.heap.size (fun k_ => some k_ ≠ (v4 : Value).ownBlock) (.slice Ao4 t338.length co4) x11_1) ∧ Aside0 (Below w.heap.size w w'))
 case atStart => exact ⟨(([] : List (S50))), (t338), (0), zz8, H', ⟨Nat.le_refl _⟩, ⟨zz46⟩, ⟨by (with_reducible repeat (first | apply Kd.R_alloc | apply Kd.R_drewN | apply Kd.R_drew)); exact Kd.R_mono HO340.out (fun _ hk => (by simp [Value.ownBlock]))⟩, ⟨zz3⟩⟩
 case round =>
  clear H'
  try clear p2
  try clear c4
  obtain ⟨x4_1, x11_1, x13_1, rfl, HA, HK1, HO_4, HO_11, HB⟩ := hrel
  have hl11_1 := (Kd.R_reads' HO_11.out).1
  rw [hl11_1] at HO_11
  (try simp only [hl11_1])
  (try simp only [hl11_1] at HO_4)
  cases gk with
  | zero => exact absurd HA.out (by simp [impl_union.l0])
  | succ k1 =>
   have H := HA.out
   clear HA
   simp only [impl_union.l0] at H
   replace H := ic H
   rcases H with ⟨c5b0, H⟩ | ⟨c5b0, H⟩
   ·replace H := gd H
    obtain ⟨c6b0, H⟩ := H
    replace H := gd H
    obtain ⟨c7b0, H⟩ := H
    by_cases c8 : (x4_1.length : Int) > 0
    ·rw [if_pos c8] at H
     have c8b0 : decide (0 < (x4_1.length : Int)) = true := decide_eq_true c8
     have c8b1 : decide (0 < x4_1.length) = true := decide_eq_true (by omega)
     clear c8
     obtain ⟨ji9, hji9⟩ : ∃ j_ : Int, (wrap64 ((x4_1.length : Int) - 1)) = j_ := ⟨_, rfl⟩
     replace H : (if 0 ≤ (ji9) then (if (ji9) < (x4_1.length : Int) then (if ((rd_T50 x11_1 x13_1).f0) ≤ (wrap64 (((rd_T50 x4_1 (ji9)).f1) + 1)) then (impl_union.l0 k1 (x4_1.set ((ji9) : Int).toNat (⟨(rd_T50 x4_1 (ji9)).f0, mx ((rd_T50 x4_1 (ji9)).f1) ((rd_T50 x11_1 x13_1).f1)⟩ : S50)) x11_1 (t338.length : Int) (wrap64 (x13_1 + 1))) else (if x4_1.length < 8796093022208 then (impl_union.l0 k1 (x4_1 ++ [(⟨(rd_T50 x11_1 x13_1).f0, (rd_T50 x11_1 x13_1).f1⟩ : S50)]) x11_1 (t338.length : Int) (wrap64 (x13_1 + 1))) else (none))) else (none)) else (none)) = some r := by first | (rw [hji9] at H; exact H) | (simp only [hji9] at H ⊢; exact H)
     have hji9w : (IntKind.i64.wrap ((x4_1.length : Int) - 1)) = ji9 := (i64_w _).trans hji9
     replace H := gd H
     obtain ⟨c10b0, H⟩ := H
     replace H := gd H
     obtain ⟨c11b0, H⟩ := H
     replace H := ic H
     rcases H with ⟨c12b0, H⟩ | ⟨c12b0, H⟩
     ·obtain ⟨ji13, hji13⟩ : ∃ j_ : Int, (mx ((rd_T50 x4_1 (ji9)).f1) ((rd_T50 x11_1 x13_1).f1)) = j_ := ⟨_, rfl⟩
      replace H : (impl_union.l0 k1 (x4_1.set ((ji9) : Int).toNat (⟨(rd_T50 x4_1 (ji9)).f0, ji13⟩ : S50)) x11_1 (t338.length : Int) (wrap64 (x13_1 + 1))) = some r := by first | (rw [hji13] at H; exact H) | (simp only [hji13] at H ⊢; exact H)
      have hji13_ : (if ((rd_T50 x4_1 (ji9)).f1) < ((rd_T50 x11_1 x13_1).f1) then ((rd_T50 x11_1 x13_1).f1) else ((rd_T50 x4_1 (ji9)).f1)) = ji13 := hji13
      obtain ⟨y345, hy345⟩ : ∃ y_ : List (S50), y_ = (x4_1.set ((ji9) : Int).toNat (⟨(rd_T50 x4_1 (ji9)).f0, ji13⟩ : S50)) := ⟨_, rfl⟩
      replace H : (impl_union.l0 k1 y345 x11_1 (t338.length : Int) (wrap64 (x13_1 + 1))) = some r := by first | (rw [hy345]; with_reducible exact H) | (have H2_ := (Option.bind_some _ _).symm.trans H; rw [hy345]; with_reducible exact H2_) | (have H2_ := (Option.bind_some _ _).symm.trans H; with_reducible exact H2_) | with_reducible exact H | (rw [hy345]; exact H) | exact H
      have Ny345 := Aside0.mk hy345
      clear hy345
      have H' := Aside0.mk H
      clear H
      obtain ⟨⟨ad341, e341, hx341_0, hx341_1⟩, p341, q341⟩ := wi (at_T50 (Kd.R_reads' HO_11.out).2.2 x13_1)
      cases e341
      try go_wp2_with (first | (refine be 6 #[.int .i64 0, .int .i64 0] 50 ?_; intro gb342 hg w15 hbox hb; replace HO_4 := Aside0.mk (Kd.R_below (Kd.R_elderB (zz22 HO_4) gb342 (Nat.le_of_eq hg.symm)) hb); replace HO_11 := Aside0.mk (Kd.R_below (Kd.R_elderB (zz22 HO_11) gb342 (Nat.le_of_eq hg.symm)) hb); have BK342 := Aside0.mk hbox; have GW342 := Aside0.mk (zz16 : w.heap.size ≤ gb342); have GE342 := Aside0.mk (zz16 : w.heap.size ≤ gb342); replace HB := Aside0.mk (below_step zz3 hb); clear hb hbox hg; have hcz16_0 : w15.cell? ⟨gb342, 0, none⟩ = some (.int .i64 0) := (blk_cell BK342.out 0).trans rfl; have hcz16_1 : w15.cell? ⟨gb342, 1, none⟩ = some (.int .i64 0) := (blk_cell BK342.out 1).trans rfl; have hfz16_0 := blk_frozen BK342.out 0; have hfz16_1 := blk_frozen BK342.out 1; obtain ⟨Ao17, co17, eo17⟩ := Kd.R_slice HO_4.out; subst eo17))
      have n0_ : Aside0 (Kd.R k50 50 ((w15.setCell ⟨gb342, 0, none⟩ (.int .i64 ((rd_T50 x11_1 x13_1).f0))).setCell ⟨gb342, 1, none⟩ (.int .i64 ((rd_T50 x11_1 x13_1).f1))) w.heap.size (fun k_ => some k_ ≠ (.slice (some ad341) x11_1.length co4 : Value).ownBlock ∧ k_ ≠ gb342) (.slice Ao17 x4_1.length co17) x4_1) := ⟨by (with_reducible repeat (first | apply Kd.R_alloc | apply Kd.R_drewN | apply Kd.R_drew)); exact Kd.R_mono (Kd.R_far (p := ⟨gb342, 1, none⟩) (Kd.R_far (p := ⟨gb342, 0, none⟩) (Kd.R_mono HO_4.out (fun k_ hk => (⟨hk, hk.2⟩ : _ ∧ k_ ≠ gb342))) (fun _ hk => hk.2) (.int .i64 ((rd_T50 x11_1 x13_1).f0))) (fun _ hk => hk.2) (.int .i64 ((rd_T50 x11_1 x13_1).f1))) (fun _ hk => ⟨hk.1.1, hk.1.2⟩)⟩
      have n1_ : Aside0 (Kd.R k50 50 ((w15.setCell ⟨gb342, 0, none⟩ (.int .i64 ((rd_T50 x11_1 x13_1).f0))).setCell ⟨gb342, 1, none⟩ (.int .i64 ((rd_T50 x11_1 x13_1).f1))) w.heap.size (fun k_ => some k_ ≠ (.slice Ao17 x4_1.length co17 : Value).ownBlock ∧ k_ ≠ gb342) (.slice (some ad341) x11_1.length co4) x11_1) := ⟨by (with_reducible repeat (first | apply Kd.R_alloc | apply Kd.R_drewN | apply Kd.R_drew)); exact Kd.R_mono (Kd.R_far (p := ⟨gb342, 1, none⟩) (Kd.R_far (p := ⟨gb342, 0, none⟩) (Kd.R_mono HO_11.out (fun k_ hk => (⟨hk, hk.2⟩ : _ ∧ k_ ≠ gb342))) (fun _ hk => hk.2) (.int .i64 ((rd_T50 x11_1 x13_1).f0))) (fun _ hk => hk.2) (.int .i64 ((rd_T50 x11_1 x13_1).f1))) (fun _ hk => ⟨hk.1.1, hk.1.2⟩)⟩
      have n2_ : Aside0 (((w15.setCell ⟨gb342, 0, none⟩ (.int .i64 ((rd_T50 x11_1 x13_1).f0))).setCell ⟨gb342, 1, none⟩ (.int .i64 ((rd_T50 x11_1 x13_1).f1))).heap[gb342]? = some (.cells #[.int .i64 ((rd_T50 x11_1 x13_1).f0), .int .i64 ((rd_T50 x11_1 x13_1).f1)] 50 (0, 0))) := ⟨by (with_reducible repeat (first | refine blk_drewN ?_ _ | refine blk_drew ?_ | refine blk_alloc ?_ _)); refine blk_put (cs := #[.int .i64 ((rd_T50 x11_1 x13_1).f0), .int .i64 0]) ?_ 1 _ rfl; (with_reducible repeat (first | refine blk_drewN ?_ _ | refine blk_drew ?_ | refine blk_alloc ?_ _)); refine blk_put (cs := #[.int .i64 0, .int .i64 0]) ?_ 0 _ rfl; (with_reducible repeat (first | refine blk_drewN ?_ _ | refine blk_drew ?_ | refine blk_alloc ?_ _)); exact BK342.out⟩
      have n3_ : Aside0 (Below w.heap.size w ((w15.setCell ⟨gb342, 0, none⟩ (.int .i64 ((rd_T50 x11_1 x13_1).f0))).setCell ⟨gb342, 1, none⟩ (.int .i64 ((rd_T50 x11_1 x13_1).f1)))) := ⟨zz6 GE342⟩
      (try clear HO_4)
      (try clear HO_11)
      (try clear BK342)
      (try clear HB)
      generalize ((w15.setCell ⟨gb342, 0, none⟩ (.int .i64 ((rd_T50 x11_1 x13_1).f0))).setCell ⟨gb342, 1, none⟩ (.int .i64 ((rd_T50 x11_1 x13_1).f1))) = w18 at n0_ n1_ n2_ n3_ ⊢
      have HO_4 := n0_
      have HO_11 := n1_
      have BK342 := n2_
      have HB := n3_
      clear n0_ n1_ n2_ n3_
      replace HO_4 := Aside0.mk (Kd.R_drew HO_4.out)
      replace HO_11 := Aside0.mk (Kd.R_drew HO_11.out)
      replace BK342 := Aside0.mk (blk_drew BK342.out)
      replace HB := Aside0.mk (below_drew1 HB.out)
      obtain ⟨⟨ad343, e343, hx343_0, hx343_1⟩, p343, q343⟩ := wi (at_T50 (Kd.R_reads' HO_4.out).2.2 (ji9))
      cases e343
      refine start_ (n := 14) (S := fun w' => w'.cell? ⟨gb342, 0, none⟩ = some (.int .i64 ((rd_T50 x11_1 x13_1).f0)) ∧ w'.cell? ⟨gb342, 1, none⟩ = some (.int .i64 ((rd_T50 x11_1 x13_1).f1)) ∧ w'.cell? (ad343.add (((ji9)).toNat * 2)) = some (.int .i64 ((rd_T50 x4_1 (ji9)).f0)) ∧ w'.cell? ⟨(ad343.add (((ji9)).toNat * 2)).block, (ad343.add (((ji9)).toNat * 2)).off + 1, none⟩ = some (.int .i64 ((rd_T50 x4_1 (ji9)).f1))) (ds := []) (bm 14 0) (by kernel_rfl) rfl rfl ⟨(blk_cell BK342.out 0).trans rfl, (blk_cell BK342.out 1).trans rfl, hx343_0, hx343_1⟩ (fun hHeld => ?_); refine with_tabW impl_union.tab7 impl_union.bits7 (fun HT_ HW_ => ?_)
      generalize w18.drew = w19 at HO_4 HO_11 BK342 HB hx343_0 hx343_1 hHeld ⊢
      refine pu 0 19 (bm 14 1) ?_
      refine pu 1 20 (bm 14 3) ?_
      refine pu 2 21 (bm 14 7) ?_
      refine pu 3 22 (bm 14 15) ?_
      refine pu 5 24 (bm 14 47) ?_
      refine pu 6 25 (bm 14 111) ?_
      refine pu 7 26 (bm 14 239) ?_
      refine pu 8 27 (bm 14 495) ?_
      refine pu 9 28 (bm 14 1007) ?_
      refine tk 4 23 (bm 14 1023) ?_
      refine tk 10 29 (bm 14 2047) ?_
      refine pu 11 30 (bm 14 4095) ?_
      refine pu 12 31 (bm 14 8191) ?_
      refine pu 13 32 (bm 14 16383) ?_
      refine done_ (done_of HT_.out (by kernel_rfl)) ?_
      try go_wp2
      replace HO_4 := Aside0.mk (Kd.R_drew HO_4.out)
      replace HO_11 := Aside0.mk (Kd.R_drew HO_11.out)
      replace BK342 := Aside0.mk (blk_drew BK342.out)
      replace HB := Aside0.mk (below_drew1 HB.out)
      obtain ⟨⟨ad344, e344, hx344_0, hx344_1⟩, p344, q344⟩ := wi (at_T50 (Kd.R_reads' HO_4.out).2.2 (ji9))
      obtain rfl : ad343 = ad344 := (by injection e344)
      have p14 : 0 ≤ ((ji9) : Int) := da
      have q14 : ((ji9) : Int) < ((x4_1.length : Int) : Int) := da
      obtain ⟨go14, co14, eo14, gb14, gl14, cl14, HG14⟩ := Kd.R_form HO_4.out (by omega)
      (first | cases eo14 | (injection eo14 with ea_ en_ ec_; (first | subst ea_ | (injection ea_ with ea_; subst ea_)); subst ec_; clear en_))
      have GB14 := Aside0.mk gb14
      have GG14 := Aside0.mk HG14
      clear gb14 gl14 HG14
      (first | simp only [add_plain] at hx343_0 | skip)
      (first | simp only [add_plain] at hx343_1 | skip)
      (first | simp only [add_plain] at hx344_0 | skip)
      (first | simp only [add_plain] at hx344_1 | skip)
      obtain ⟨ce14, hcl14, hM14, hcc14, hfr14⟩ := Kd.R_elem HO_4.out z50 ((ji9) : Int) p14 q14
      obtain rfl := k50_openM hM14
      have hx14_0 : World.cell? _ ⟨go14, ((ji9) : Int).toNat * 2, none⟩ = some (.int .i64 ((rd_T50 x4_1 (ji9)).f0)) := hcc14 0 _ rfl
      have hx14_1 : World.cell? _ ⟨go14, ((ji9) : Int).toNat * 2 + 1, none⟩ = some (.int .i64 ((rd_T50 x4_1 (ji9)).f1)) := hcc14 1 _ rfl
      have hf14_0 : World.frozen? _ ⟨go14, ((ji9) : Int).toNat * 2, none⟩ = false := hfr14 0
      have hf14_1 : World.frozen? _ ⟨go14, ((ji9) : Int).toNat * 2 + 1, none⟩ = false := hfr14 1
      clear hcl14 hcc14 hfr14 hM14
      replace p14 := eq_true p14
      replace q14 := eq_true q14
      obtain ⟨ce21, hcl21, hM21, hcc21, hfr21⟩ := Kd.R_elem HO_4.out z50 ((ji9) : Int) (of_decide_eq_true zz2) (by have h_ : ((ji9) : Int) < ((x4_1.length : Int) : Int) := of_decide_eq_true zz2; first | exact h_ | (have e_ := (Kd.R_reads' HO_4.out).1; omega) | simpa using h_)
      obtain rfl := k50_openM hM21
      have HP21 := (Kd.R_seg HO_4.out ((ji9) : Int) (of_decide_eq_true zz2) (by have h_ : ((ji9) : Int) < ((x4_1.length : Int) : Int) := of_decide_eq_true zz2; first | exact h_ | (have e_ := (Kd.R_reads' HO_4.out).1; omega) | simpa using h_) (seg := [.int .i64 ji13]) (j := 1) hcl21 hcc21 (show 2 ≤ 2 from by decide) (x' := (⟨(rd_T50 x4_1 (ji9)).f0, ji13⟩ : S50)) (k50_mkM _ _ _ (⟨(rd_T50 x4_1 (ji9)).f0, ji13⟩ : S50) ) (fun _ hk => hk)).1
      rw [← Ny345.out] at HP21
      have HQ21 := Aside0.mk HP21
      clear hcl21 hcc21 hfr21 hM21 HP21
      refine start_ (n := 15) (S := fun w' => w'.cell? ⟨gb342, 0, none⟩ = some (.int .i64 ((rd_T50 x11_1 x13_1).f0)) ∧ w'.cell? ⟨gb342, 1, none⟩ = some (.int .i64 ((rd_T50 x11_1 x13_1).f1)) ∧ w'.cell? ⟨go14, ((ji9)).toNat * 2, none⟩ = some (.int .i64 ((rd_T50 x4_1 (ji9)).f0)) ∧ w'.cell? ⟨go14, ((ji9)).toNat * 2 + 1, none⟩ = some (.int .i64 ((rd_T50 x4_1 (ji9)).f1))) (ds := [14]) (bm 15 0) (by kernel_rfl) rfl rfl ⟨(blk_cell BK342.out 0).trans rfl, (blk_cell BK342.out 1).trans rfl, hx344_0, hx344_1⟩ (fun hHeld => ?_); refine with_tabW impl_union.tab8 impl_union.bits8 (fun HT_ HW_ => ?_)
      generalize w19.drew = w20 at HO_4 HO_11 BK342 HB GG14 HQ21 hf14_0 hf14_1 hx14_0 hx14_1 hx343_0 hx343_1 hx344_0 hx344_1 hHeld ⊢
      refine pu 0 33 (bm 15 1) ?_
      refine pu 1 34 (bm 15 3) ?_
      refine pu 2 35 (bm 15 7) ?_
      refine pu 3 36 (bm 15 15) ?_
      refine pu 4 37 (bm 15 31) ?_
      refine pu 5 38 (bm 15 63) ?_
      refine pu 6 39 (bm 15 127) ?_
      refine pu 7 40 (bm 15 255) ?_
      refine pu 9 42 (bm 15 767) ?_
      refine tk 8 41 (bm 15 1023) ?_
      refine tk 10 43 (bm 15 2047) ?_
      refine pu 11 44 (bm 15 4095) ?_
      refine pu 12 45 (bm 15 8191) ?_
      refine pu 13 46 (bm 15 16383) ?_
      refine last_ (i := 14) (N := none) (bm 15 32767) rfl rfl (one_of HT_.out (by kernel_rfl)) (by decide) (fun K hK => ?_)
      refine skip_ (w1 := ?_) (by rfl) rfl ?_ ?_
      rotate_left
      ·go_simp
       rfl
      refine hK.out _ _ ?_
      clear hK K
      refine done_ (done_of HT_.out (by kernel_rfl)) ?_
      try go_wp2
      (try simp only [← hl11_1])
      go_roundg k1
      case measure => have := HK1.out; omega
      case rel => exact ⟨(y345), (x11_1), (wrap64 (x13_1 + 1)), zz8, H', ⟨zz15 HK1⟩, ⟨by (try simp only [hl11_1]); (with_reducible repeat (first | apply Kd.R_alloc | apply Kd.R_drewN | apply Kd.R_drew)); exact Kd.R_mono HQ21.out (fun _ hk => hk.1)⟩, ⟨by (try simp only [hl11_1]); (with_reducible repeat (first | apply Kd.R_alloc | apply Kd.R_drewN | apply Kd.R_drew)); exact Kd.R_mono (Kd.R_far (p := ⟨go14, ((ji9) : Int).toNat * 2 + 1, none⟩) (Kd.R_mono HO_11.out (fun k_ hk => (⟨hk, fun e_ => hk.1 (by rw [e_]; rfl)⟩ : _ ∧ k_ ≠ go14))) (fun _ hk => hk.2) (.int .i64 ji13)) (fun _ hk => hk.1.1)⟩, ⟨zz18 GB14 GE342⟩⟩
     ·replace H := gp H
      obtain ⟨c22, H⟩ := H
      have LMc22 := Aside0.mk c22
      clear c22
      obtain ⟨y346, hy346⟩ : ∃ y_ : List (S50), y_ = (x4_1 ++ [(⟨(rd_T50 x11_1 x13_1).f0, (rd_T50 x11_1 x13_1).f1⟩ : S50)]) := ⟨_, rfl⟩
      replace H : (impl_union.l0 k1 y346 x11_1 (t338.length : Int) (wrap64 (x13_1 + 1))) = some r := by first | (rw [hy346]; with_reducible exact H) | (have H2_ := (Option.bind_some _ _).symm.trans H; rw [hy346]; with_reducible exact H2_) | (have H2_ := (Option.bind_some _ _).symm.trans H; with_reducible exact H2_) | with_reducible exact H | (rw [hy346]; exact H) | exact H
      have Ny346 := Aside0.mk hy346
      clear hy346
      have H' := Aside0.mk H
      clear H
      obtain ⟨⟨ad341, e341, hx341_0, hx341_1⟩, p341, q341⟩ := wi (at_T50 (Kd.R_reads' HO_11.out).2.2 x13_1)
      cases e341
      try go_wp2_with (first | (refine be 6 #[.int .i64 0, .int .i64 0] 50 ?_; intro gb342 hg w23 hbox hb; replace HO_4 := Aside0.mk (Kd.R_below (Kd.R_elderB (zz22 HO_4) gb342 (Nat.le_of_eq hg.symm)) hb); replace HO_11 := Aside0.mk (Kd.R_below (Kd.R_elderB (zz22 HO_11) gb342 (Nat.le_of_eq hg.symm)) hb); have BK342 := Aside0.mk hbox; have GW342 := Aside0.mk (zz16 : w.heap.size ≤ gb342); have GE342 := Aside0.mk (zz16 : w.heap.size ≤ gb342); replace HB := Aside0.mk (below_step zz3 hb); clear hb hbox hg; have hcz24_0 : w23.cell? ⟨gb342, 0, none⟩ = some (.int .i64 0) := (blk_cell BK342.out 0).trans rfl; have hcz24_1 : w23.cell? ⟨gb342, 1, none⟩ = some (.int .i64 0) := (blk_cell BK342.out 1).trans rfl; have hfz24_0 := blk_frozen BK342.out 0; have hfz24_1 := blk_frozen BK342.out 1; obtain ⟨Ao25, co25, eo25⟩ := Kd.R_slice HO_4.out; subst eo25))
      have n0_ : Aside0 (Kd.R k50 50 ((w23.setCell ⟨gb342, 0, none⟩ (.int .i64 ((rd_T50 x11_1 x13_1).f0))).setCell ⟨gb342, 1, none⟩ (.int .i64 ((rd_T50 x11_1 x13_1).f1))) w.heap.size (fun k_ => some k_ ≠ (.slice (some ad341) x11_1.length co4 : Value).ownBlock ∧ k_ ≠ gb342) (.slice Ao25 x4_1.length co25) x4_1) := ⟨by (with_reducible repeat (first | apply Kd.R_alloc | apply Kd.R_drewN | apply Kd.R_drew)); exact Kd.R_mono (Kd.R_far (p := ⟨gb342, 1, none⟩) (Kd.R_far (p := ⟨gb342, 0, none⟩) (Kd.R_mono HO_4.out (fun k_ hk => (⟨hk, hk.2⟩ : _ ∧ k_ ≠ gb342))) (fun _ hk => hk.2) (.int .i64 ((rd_T50 x11_1 x13_1).f0))) (fun _ hk => hk.2) (.int .i64 ((rd_T50 x11_1 x13_1).f1))) (fun _ hk => ⟨hk.1.1, hk.1.2⟩)⟩
      have n1_ : Aside0 (Kd.R k50 50 ((w23.setCell ⟨gb342, 0, none⟩ (.int .i64 ((rd_T50 x11_1 x13_1).f0))).setCell ⟨gb342, 1, none⟩ (.int .i64 ((rd_T50 x11_1 x13_1).f1))) w.heap.size (fun k_ => some k_ ≠ (.slice Ao25 x4_1.length co25 : Value).ownBlock ∧ k_ ≠ gb342) (.slice (some ad341) x11_1.length co4) x11_1) := ⟨by (with_reducible repeat (first | apply Kd.R_alloc | apply Kd.R_drewN | apply Kd.R_drew)); exact Kd.R_mono (Kd.R_far (p := ⟨gb342, 1, none⟩) (Kd.R_far (p := ⟨gb342, 0, none⟩) (Kd.R_mono HO_11.out (fun k_ hk => (⟨hk, hk.2⟩ : _ ∧ k_ ≠ gb342))) (fun _ hk => hk.2) (.int .i64 ((rd_T50 x11_1 x13_1).f0))) (fun _ hk => hk.2) (.int .i64 ((rd_T50 x11_1 x13_1).f1))) (fun _ hk => ⟨hk.1.1, hk.1.2⟩)⟩
      have n2_ : Aside0 (((w23.setCell ⟨gb342, 0, none⟩ (.int .i64 ((rd_T50 x11_1 x13_1).f0))).setCell ⟨gb342, 1, none⟩ (.int .i64 ((rd_T50 x11_1 x13_1).f1))).heap[gb342]? = some (.cells #[.int .i64 ((rd_T50 x11_1 x13_1).f0), .int .i64 ((rd_T50 x11_1 x13_1).f1)] 50 (0, 0))) := ⟨by (with_reducible repeat (first | refine blk_drewN ?_ _ | refine blk_drew ?_ | refine blk_alloc ?_ _)); refine blk_put (cs := #[.int .i64 ((rd_T50 x11_1 x13_1).f0), .int .i64 0]) ?_ 1 _ rfl; (with_reducible repeat (first | refine blk_drewN ?_ _ | refine blk_drew ?_ | refine blk_alloc ?_ _)); refine blk_put (cs := #[.int .i64 0, .int .i64 0]) ?_ 0 _ rfl; (with_reducible repeat (first | refine blk_drewN ?_ _ | refine blk_drew ?_ | refine blk_alloc ?_ _)); exact BK342.out⟩
      have n3_ : Aside0 (Below w.heap.size w ((w23.setCell ⟨gb342, 0, none⟩ (.int .i64 ((rd_T50 x11_1 x13_1).f0))).setCell ⟨gb342, 1, none⟩ (.int .i64 ((rd_T50 x11_1 x13_1).f1)))) := ⟨zz6 GE342⟩
      (try clear HO_4)
      (try clear HO_11)
      (try clear BK342)
      (try clear HB)
      generalize ((w23.setCell ⟨gb342, 0, none⟩ (.int .i64 ((rd_T50 x11_1 x13_1).f0))).setCell ⟨gb342, 1, none⟩ (.int .i64 ((rd_T50 x11_1 x13_1).f1))) = w26 at n0_ n1_ n2_ n3_ ⊢
      have HO_4 := n0_
      have HO_11 := n1_
      have BK342 := n2_
      have HB := n3_
      clear n0_ n1_ n2_ n3_
      replace HO_4 := Aside0.mk (Kd.R_drew HO_4.out)
      replace HO_11 := Aside0.mk (Kd.R_drew HO_11.out)
      replace BK342 := Aside0.mk (blk_drew BK342.out)
      replace HB := Aside0.mk (below_drew1 HB.out)
      obtain ⟨⟨ad343, e343, hx343_0, hx343_1⟩, p343, q343⟩ := wi (at_T50 (Kd.R_reads' HO_4.out).2.2 (ji9))
      cases e343
      refine start_ (n := 14) (S := fun w' => w'.cell? ⟨gb342, 0, none⟩ = some (.int .i64 ((rd_T50 x11_1 x13_1).f0)) ∧ w'.cell? ⟨gb342, 1, none⟩ = some (.int .i64 ((rd_T50 x11_1 x13_1).f1)) ∧ w'.cell? (ad343.add (((ji9)).toNat * 2)) = some (.int .i64 ((rd_T50 x4_1 (ji9)).f0)) ∧ w'.cell? ⟨(ad343.add (((ji9)).toNat * 2)).block, (ad343.add (((ji9)).toNat * 2)).off + 1, none⟩ = some (.int .i64 ((rd_T50 x4_1 (ji9)).f1))) (ds := []) (bm 14 0) (by kernel_rfl) rfl rfl ⟨(blk_cell BK342.out 0).trans rfl, (blk_cell BK342.out 1).trans rfl, hx343_0, hx343_1⟩ (fun hHeld => ?_); refine with_tabW impl_union.tab7 impl_union.bits7 (fun HT_ HW_ => ?_)
      generalize w26.drew = w27 at HO_4 HO_11 BK342 HB hx343_0 hx343_1 hHeld ⊢
      refine pu 0 19 (bm 14 1) ?_
      refine pu 1 20 (bm 14 3) ?_
      refine pu 2 21 (bm 14 7) ?_
      refine pu 3 22 (bm 14 15) ?_
      refine pu 5 24 (bm 14 47) ?_
      refine pu 6 25 (bm 14 111) ?_
      refine pu 7 26 (bm 14 239) ?_
      refine pu 8 27 (bm 14 495) ?_
      refine pu 9 28 (bm 14 1007) ?_
      refine tk 4 23 (bm 14 1023) ?_
      refine tk 10 29 (bm 14 2047) ?_
      refine pu 11 30 (bm 14 4095) ?_
      refine pu 12 31 (bm 14 8191) ?_
      refine pu 13 32 (bm 14 16383) ?_
      refine done_ (done_of HT_.out (by kernel_rfl)) ?_
      have hcz28_0 : w27.cell? ⟨gb342, 0, none⟩ = some (.int .i64 ((rd_T50 x11_1 x13_1).f0)) := (blk_cell BK342.out 0).trans rfl
      have hcz28_1 : w27.cell? ⟨gb342, 1, none⟩ = some (.int .i64 ((rd_T50 x11_1 x13_1).f1)) := (blk_cell BK342.out 1).trans rfl
      have hfz28_0 := blk_frozen BK342.out 0
      have hfz28_1 := blk_frozen BK342.out 1
      try go_wp2_with (first | ((with_reducible refine gate_builtin (b := .append) (xs := #[.tmp 47, .tmp 49]) rfl ?_); at_builtin; refine Kd.R_append k50 (w0 := w) w.heap.size rfl (.tmp 47) (.tmp 49) 46 50 (.agg #[(.int .i64 0), (.int .i64 0)]) 16 rfl Tryz.underlying46 info50 rfl (by decide) (by omega) (.slice (some ad343) x4_1.length co25) x4_1 (⟨(rd_T50 x11_1 x13_1).f0, (rd_T50 x11_1 x13_1).f1⟩ : S50) [.int .i64 ((rd_T50 x11_1 x13_1).f0), .int .i64 ((rd_T50 x11_1 x13_1).f1)] (fun k_ => some k_ ≠ (.slice (some ad341) x11_1.length co4 : Value).ownBlock ∧ k_ ≠ gb342) (fun _ => False) rfl rfl ?aP (fun _ hk => hk.elim) ?aF ?aO ?aB ?aS ?aL ?_; (case aP => exact k50_mkM _ _ _ (⟨(rd_T50 x11_1 x13_1).f0, (rd_T50 x11_1 x13_1).f1⟩ : S50)); (case aB => exact zz6 GE342); (case aF => exact (fun k_ hk => ⟨Kd.fresh' (Kd.R_lt (zz22 HO_11)) k_ hk, Kd.freshB (g := gb342) (o := .cells #[.int .i64 ((rd_T50 x11_1 x13_1).f0), .int .i64 ((rd_T50 x11_1 x13_1).f1)] 50 (0, 0)) (zz5 BK342) k_ hk⟩)); (case aO => exact zz22 HO_4); (case aS => exact zz27 GE342); (case aL => exact zz15 LMc22); intro v347 w29 ho hb hg hat; rw [← Ny346.out] at ho; replace HO_11 := Aside0.mk (Kd.R_after (ok := (fun k_ => k_ ≠ gb342)) (zz50 HO_11) hg hat); replace BK342 := Aside0.mk (blk_grown (g := gb342) (o := .cells #[.int .i64 ((rd_T50 x11_1 x13_1).f0), .int .i64 ((rd_T50 x11_1 x13_1).f1)] 50 (0, 0)) (zz5 BK342) hg (Kd.R_away HO_4.out (fun _ hk => hk.2))); replace HB := Aside0.mk hb; have HO348 := Aside0.mk ho; clear HO_4 ho hb hg hat))
      (try simp only [← hl11_1])
      go_roundg k1
      case measure => have := HK1.out; omega
      case rel => exact ⟨(y346), (x11_1), (wrap64 (x13_1 + 1)), zz8, H', ⟨zz15 HK1⟩, ⟨by (try simp only [hl11_1]); (with_reducible repeat (first | apply Kd.R_alloc | apply Kd.R_drewN | apply Kd.R_drew)); exact Kd.R_mono HO348.out (fun _ hk => hk.1)⟩, ⟨by (try simp only [hl11_1]); (with_reducible repeat (first | apply Kd.R_alloc | apply Kd.R_drewN | apply Kd.R_drew)); exact Kd.R_mono HO_11.out (fun _ hk => hk.2)⟩, ⟨zz6 GE342⟩⟩
    ·rw [if_neg c8] at H
     have c8b0 : decide (0 < (x4_1.length : Int)) = false := decide_eq_false c8
     have c8b1 : decide (0 < x4_1.length) = false := decide_eq_false (by omega)
     clear c8
     replace H := gp H
     obtain ⟨c30, H⟩ := H
     have LMc30 := Aside0.mk c30
     clear c30
     obtain ⟨y349, hy349⟩ : ∃ y_ : List (S50), y_ = (x4_1 ++ [(⟨(rd_T50 x11_1 x13_1).f0, (rd_T50 x11_1 x13_1).f1⟩ : S50)]) := ⟨_, rfl⟩
     replace H : (impl_union.l0 k1 y349 x11_1 (t338.length : Int) (wrap64 (x13_1 + 1))) = some r := by first | (rw [hy349]; with_reducible exact H) | (have H2_ := (Option.bind_some _ _).symm.trans H; rw [hy349]; with_reducible exact H2_) | (have H2_ := (Option.bind_some _ _).symm.trans H; with_reducible exact H2_) | with_reducible exact H | (rw [hy349]; exact H) | exact H
     have Ny349 := Aside0.mk hy349
     clear hy349
     have H' := Aside0.mk H
     clear H
     obtain ⟨⟨ad341, e341, hx341_0, hx341_1⟩, p341, q341⟩ := wi (at_T50 (Kd.R_reads' HO_11.out).2.2 x13_1)
     cases e341
     try go_wp2_with (first | (refine be 6 #[.int .i64 0, .int .i64 0] 50 ?_; intro gb342 hg w31 hbox hb; replace HO_4 := Aside0.mk (Kd.R_below (Kd.R_elderB (zz22 HO_4) gb342 (Nat.le_of_eq hg.symm)) hb); replace HO_11 := Aside0.mk (Kd.R_below (Kd.R_elderB (zz22 HO_11) gb342 (Nat.le_of_eq hg.symm)) hb); have BK342 := Aside0.mk hbox; have GW342 := Aside0.mk (zz16 : w.heap.size ≤ gb342); have GE342 := Aside0.mk (zz16 : w.heap.size ≤ gb342); replace HB := Aside0.mk (below_step zz3 hb); clear hb hbox hg; have hcz32_0 : w31.cell? ⟨gb342, 0, none⟩ = some (.int .i64 0) := (blk_cell BK342.out 0).trans rfl; have hcz32_1 : w31.cell? ⟨gb342, 1, none⟩ = some (.int .i64 0) := (blk_cell BK342.out 1).trans rfl; have hfz32_0 := blk_frozen BK342.out 0; have hfz32_1 := blk_frozen BK342.out 1; obtain ⟨Ao33, co33, eo33⟩ := Kd.R_slice HO_4.out; subst eo33))
     have n0_ : Aside0 (Kd.R k50 50 ((w31.setCell ⟨gb342, 0, none⟩ (.int .i64 ((rd_T50 x11_1 x13_1).f0))).setCell ⟨gb342, 1, none⟩ (.int .i64 ((rd_T50 x11_1 x13_1).f1))) w.heap.size (fun k_ => some k_ ≠ (.slice (some ad341) x11_1.length co4 : Value).ownBlock ∧ k_ ≠ gb342) (.slice Ao33 x4_1.length co33) x4_1) := ⟨by (with_reducible repeat (first | apply Kd.R_alloc | apply Kd.R_drewN | apply Kd.R_drew)); exact Kd.R_mono (Kd.R_far (p := ⟨gb342, 1, none⟩) (Kd.R_far (p := ⟨gb342, 0, none⟩) (Kd.R_mono HO_4.out (fun k_ hk => (⟨hk, hk.2⟩ : _ ∧ k_ ≠ gb342))) (fun _ hk => hk.2) (.int .i64 ((rd_T50 x11_1 x13_1).f0))) (fun _ hk => hk.2) (.int .i64 ((rd_T50 x11_1 x13_1).f1))) (fun _ hk => ⟨hk.1.1, hk.1.2⟩)⟩
     have n1_ : Aside0 (Kd.R k50 50 ((w31.setCell ⟨gb342, 0, none⟩ (.int .i64 ((rd_T50 x11_1 x13_1).f0))).setCell ⟨gb342, 1, none⟩ (.int .i64 ((rd_T50 x11_1 x13_1).f1))) w.heap.size (fun k_ => some k_ ≠ (.slice Ao33 x4_1.length co33 : Value).ownBlock ∧ k_ ≠ gb342) (.slice (some ad341) x11_1.length co4) x11_1) := ⟨by (with_reducible repeat (first | apply Kd.R_alloc | apply Kd.R_drewN | apply Kd.R_drew)); exact Kd.R_mono (Kd.R_far (p := ⟨gb342, 1, none⟩) (Kd.R_far (p := ⟨gb342, 0, none⟩) (Kd.R_mono HO_11.out (fun k_ hk => (⟨hk, hk.2⟩ : _ ∧ k_ ≠ gb342))) (fun _ hk => hk.2) (.int .i64 ((rd_T50 x11_1 x13_1).f0))) (fun _ hk => hk.2) (.int .i64 ((rd_T50 x11_1 x13_1).f1))) (fun _ hk => ⟨hk.1.1, hk.1.2⟩)⟩
     have n2_ : Aside0 (((w31.setCell ⟨gb342, 0, none⟩ (.int .i64 ((rd_T50 x11_1 x13_1).f0))).setCell ⟨gb342, 1, none⟩ (.int .i64 ((rd_T50 x11_1 x13_1).f1))).heap[gb342]? = some (.cells #[.int .i64 ((rd_T50 x11_1 x13_1).f0), .int .i64 ((rd_T50 x11_1 x13_1).f1)] 50 (0, 0))) := ⟨by (with_reducible repeat (first | refine blk_drewN ?_ _ | refine blk_drew ?_ | refine blk_alloc ?_ _)); refine blk_put (cs := #[.int .i64 ((rd_T50 x11_1 x13_1).f0), .int .i64 0]) ?_ 1 _ rfl; (with_reducible repeat (first | refine blk_drewN ?_ _ | refine blk_drew ?_ | refine blk_alloc ?_ _)); refine blk_put (cs := #[.int .i64 0, .int .i64 0]) ?_ 0 _ rfl; (with_reducible repeat (first | refine blk_drewN ?_ _ | refine blk_drew ?_ | refine blk_alloc ?_ _)); exact BK342.out⟩
     have n3_ : Aside0 (Below w.heap.size w ((w31.setCell ⟨gb342, 0, none⟩ (.int .i64 ((rd_T50 x11_1 x13_1).f0))).setCell ⟨gb342, 1, none⟩ (.int .i64 ((rd_T50 x11_1 x13_1).f1)))) := ⟨zz6 GE342⟩
     (try clear HO_4)
     (try clear HO_11)
     (try clear BK342)
     (try clear HB)
     generalize ((w31.setCell ⟨gb342, 0, none⟩ (.int .i64 ((rd_T50 x11_1 x13_1).f0))).setCell ⟨gb342, 1, none⟩ (.int .i64 ((rd_T50 x11_1 x13_1).f1))) = w34 at n0_ n1_ n2_ n3_ ⊢
     have HO_4 := n0_
     have HO_11 := n1_
     have BK342 := n2_
     have HB := n3_
     clear n0_ n1_ n2_ n3_
     replace HO_4 := Aside0.mk (Kd.R_drew HO_4.out)
     replace HO_11 := Aside0.mk (Kd.R_drew HO_11.out)
     replace BK342 := Aside0.mk (blk_drew BK342.out)
     replace HB := Aside0.mk (below_drew1 HB.out)
     refine start_ (n := 14) (S := fun w' => True) (ds := []) (bm 14 0) (by kernel_rfl) rfl rfl trivial (fun hHeld => ?_); refine with_tabW impl_union.tab7 impl_union.bits7 (fun HT_ HW_ => ?_)
     generalize w34.drew = w35 at HO_4 HO_11 BK342 HB hHeld ⊢
     refine pu 0 19 (bm 14 1) ?_
     refine pu 1 20 (bm 14 3) ?_
     refine pu 2 21 (bm 14 7) ?_
     refine po 3 22 (bm 14 15) ?_
     refine po 4 23 (bm 14 31) ?_
     refine po 5 24 (bm 14 63) ?_
     refine po 6 25 (bm 14 127) ?_
     refine po 7 26 (bm 14 255) ?_
     refine po 8 27 (bm 14 511) ?_
     refine po 9 28 (bm 14 1023) ?_
     refine po 10 29 (bm 14 2047) ?_
     refine po 11 30 (bm 14 4095) ?_
     refine po 12 31 (bm 14 8191) ?_
     refine pu 13 32 (bm 14 16383) ?_
     refine done_ (done_of HT_.out (by kernel_rfl)) ?_
     have hcz36_0 : w35.cell? ⟨gb342, 0, none⟩ = some (.int .i64 ((rd_T50 x11_1 x13_1).f0)) := (blk_cell BK342.out 0).trans rfl
     have hcz36_1 : w35.cell? ⟨gb342, 1, none⟩ = some (.int .i64 ((rd_T50 x11_1 x13_1).f1)) := (blk_cell BK342.out 1).trans rfl
     have hfz36_0 := blk_frozen BK342.out 0
     have hfz36_1 := blk_frozen BK342.out 1
     try go_wp2_with (first | ((with_reducible refine gate_builtin (b := .append) (xs := #[.tmp 47, .tmp 49]) rfl ?_); at_builtin; refine Kd.R_append k50 (w0 := w) w.heap.size rfl (.tmp 47) (.tmp 49) 46 50 (.agg #[(.int .i64 0), (.int .i64 0)]) 16 rfl Tryz.underlying46 info50 rfl (by decide) (by omega) (.slice Ao33 x4_1.length co33) x4_1 (⟨(rd_T50 x11_1 x13_1).f0, (rd_T50 x11_1 x13_1).f1⟩ : S50) [.int .i64 ((rd_T50 x11_1 x13_1).f0), .int .i64 ((rd_T50 x11_1 x13_1).f1)] (fun k_ => some k_ ≠ (.slice (some ad341) x11_1.length co4 : Value).ownBlock ∧ k_ ≠ gb342) (fun _ => False) rfl rfl ?aP (fun _ hk => hk.elim) ?aF ?aO ?aB ?aS ?aL ?_; (case aP => exact k50_mkM _ _ _ (⟨(rd_T50 x11_1 x13_1).f0, (rd_T50 x11_1 x13_1).f1⟩ : S50)); (case aB => exact zz6 GE342); (case aF => exact (fun k_ hk => ⟨Kd.fresh' (Kd.R_lt (zz22 HO_11)) k_ hk, Kd.freshB (g := gb342) (o := .cells #[.int .i64 ((rd_T50 x11_1 x13_1).f0), .int .i64 ((rd_T50 x11_1 x13_1).f1)] 50 (0, 0)) (zz5 BK342) k_ hk⟩)); (case aO => exact zz22 HO_4); (case aS => exact zz27 GE342); (case aL => exact zz15 LMc30); intro v350 w37 ho hb hg hat; rw [← Ny349.out] at ho; replace HO_11 := Aside0.mk (Kd.R_after (ok := (fun k_ => k_ ≠ gb342)) (zz50 HO_11) hg hat); replace BK342 := Aside0.mk (blk_grown (g := gb342) (o := .cells #[.int .i64 ((rd_T50 x11_1 x13_1).f0), .int .i64 ((rd_T50 x11_1 x13_1).f1)] 50 (0, 0)) (zz5 BK342) hg (Kd.R_away HO_4.out (fun _ hk => hk.2))); replace HB := Aside0.mk hb; have HO351 := Aside0.mk ho; clear HO_4 ho hb hg hat))
     (try simp only [← hl11_1])
     go_roundg k1
     case measure => have := HK1.out; omega
     case rel => exact ⟨(y349), (x11_1), (wrap64 (x13_1 + 1)), zz8, H', ⟨zz15 HK1⟩, ⟨by (try simp only [hl11_1]); (with_reducible repeat (first | apply Kd.R_alloc | apply Kd.R_drewN | apply Kd.R_drew)); exact Kd.R_mono HO351.out (fun _ hk => hk.1)⟩, ⟨by (try simp only [hl11_1]); (with_reducible repeat (first | apply Kd.R_alloc | apply Kd.R_drewN | apply Kd.R_drew)); exact Kd.R_mono HO_11.out (fun _ hk => hk.2)⟩, ⟨zz6 GE342⟩⟩
   ·obtain rfl := Option.some.inj H
    (try simp only [hl11_1] at c5b0)
    go_wp2
    go_ret
    exact ⟨_, zz13, zz25 HO_4, zz3⟩
def impl_around.f (a0 : Int) (a1 : Int) : Option (Int × Int) := if 0 ≤ (wrap64 (32 - a1)) then (some (shl .i64 (shr .i64 a0 (wrap64 (32 - a1))) (wrap64 (32 - a1)), a1)) else (none)
set_option maxHeartbeats 8000000 in
set_option maxRecDepth 100000 in
theorem impl_around.calls (a0 : Int) (a1 : Int) (r1 : Int) (r2 : Int) (w : World) (h : impl_around.f a0 a1 = some (r1, r2)) :
  Calls Tryz.prog 65 #[.int .i64 a0, .int .i64 a1] w fun e w' => e = .returned (.agg #[.int .i64 r1, .int .i64 r2]) ∧ Below w.heap.size w w' := by
 have hu32 := Tryz.underlying32
 have HB := Aside0.mk (Below.refl w.heap.size w)
 have H : (if 0 ≤ (wrap64 (32 - a1)) then (some (shl .i64 (shr .i64 a0 (wrap64 (32 - a1))) (wrap64 (32 - a1)), a1)) else (none)) = some (r1, r2) := h
 clear h
 obtain ⟨ji3, hji3⟩ : ∃ j_ : Int, (wrap64 (32 - a1)) = j_ := ⟨_, rfl⟩
 replace H : (if 0 ≤ (ji3) then (some (shl .i64 (shr .i64 a0 (ji3)) (ji3), a1)) else (none)) = some (r1, r2) := by first | (rw [hji3] at H; exact H) | (simp only [hji3] at H ⊢; exact H)
 have hji3w : (IntKind.i64.wrap (32 - a1)) = ji3 := (i64_w _).trans hji3
 by_cases c4 : 0 ≤ (ji3)
 ·rw [if_pos c4] at H
  have c4b0 := eq_true c4
  have c4b1 : decide (0 ≤ (ji3)) = true := decide_eq_true c4
  clear c4
  obtain ⟨ji5, hji5⟩ : ∃ j_ : Int, (shr .i64 a0 (ji3)) = j_ := ⟨_, rfl⟩
  replace H : (some (shl .i64 (ji5) (ji3), a1)) = some (r1, r2) := by first | (rw [hji5] at H; exact H) | (simp only [hji5] at H ⊢; exact H)
  have hji5_ : (a0 / 2 ^ min (ji3).toNat 64) = ji5 := hji5
  have hji5z : (ji3) ≤ 64 → (a0 / 2 ^ (ji3).toNat) = ji5 := shr_small hji5
  have c6b0 := eq_true (of_decide_eq_true zz2 : 0 ≤ (ji3))
  obtain ⟨ji7, hji7⟩ : ∃ j_ : Int, (shl .i64 (ji5) (ji3)) = j_ := ⟨_, rfl⟩
  replace H : (some (ji7, a1)) = some (r1, r2) := by first | (rw [hji7] at H; exact H) | (simp only [hji7] at H ⊢; exact H)
  have hji7_ : (IntKind.i64.wrap ((ji5) * 2 ^ min (ji3).toNat 64)) = ji7 := hji7
  have hji7z : (ji3) ≤ 64 → (IntKind.i64.wrap ((ji5) * 2 ^ (ji3).toNat)) = ji7 := shl_small hji7
  have hji7y : (wrap64 ((ji5) * 2 ^ min (ji3).toNat 64)) = ji7 := (i64_w _).symm.trans hji7_
  have hji7x : (ji3) ≤ 64 → (wrap64 ((ji5) * 2 ^ (ji3).toNat)) = ji7 := fun h_ => (i64_w _).symm.trans (hji7z h_)
  simp only [Option.some.injEq, Prod.mk.injEq] at H
  obtain ⟨rfl, rfl⟩ := H
  go_enter Tryz.func65, Tryz.ntmps65
  go_wp2_with (first | (refine be 4 #[.int .i64 0, .int .i64 0] 32 ?_; intro gb352 hg w8 hbox hb; have BK352 := Aside0.mk hbox; have GW352 := Aside0.mk (zz16 : w.heap.size ≤ gb352); have GE352 := Aside0.mk (zz16 : w.heap.size ≤ gb352); replace HB := Aside0.mk (below_step zz3 hb); clear hb hbox hg; have hcz9_0 : w8.cell? ⟨gb352, 0, none⟩ = some (.int .i64 0) := (blk_cell BK352.out 0).trans rfl; have hcz9_1 : w8.cell? ⟨gb352, 1, none⟩ = some (.int .i64 0) := (blk_cell BK352.out 1).trans rfl; have hfz9_0 := blk_frozen BK352.out 0; have hfz9_1 := blk_frozen BK352.out 1))
  refine bodyPost_ret (results_cell_row rfl _ _ gb352 32 #[.int .i64 ji7, .int .i64 a1] (0, 0) _ rfl (by (with_reducible repeat (first | refine blk_drewN ?_ _ | refine blk_drew ?_ | refine blk_alloc ?_ _)); refine blk_put (cs := #[.int .i64 ji7, .int .i64 0]) ?_ 1 _ rfl; (with_reducible repeat (first | refine blk_drewN ?_ _ | refine blk_drew ?_ | refine blk_alloc ?_ _)); refine blk_put (cs := #[.int .i64 0, .int .i64 0]) ?_ 0 _ rfl; (with_reducible repeat (first | refine blk_drewN ?_ _ | refine blk_drew ?_ | refine blk_alloc ?_ _)); exact BK352.out) Tryz.underlying32 rfl (by kernel_rfl)) rfl ?_
  exact ⟨by first | rfl | (simp [errW_none, errW_some] <;> rfl) | (simp only [← hji3, ← hji5, ← hji7]; first | rfl | (simp [errW_none, errW_some] <;> rfl)) | (simp [*, errW_none, errW_some] <;> rfl), zz6 GE352⟩
 ·rw [if_neg c4] at H
  exact absurd H (by simp)
end Go.Proofs.YthkjkmgbdahggaaGreat.PY
