/- A text printed by this session's wip/myprint.py over the kit's print: contracts of functions of the given program, each at what its Lean function says. -/
import Derived.Test.YthkjkmgbdahggaaGreatPYx0
import Derived.Test.YthkjkmgbdahggaaGreatPYx7
namespace Go.Proofs.YthkjkmgbdahggaaGreat.PY
open Go.RowKit Go.Proofs.YthkjkmgbdahggaaGreatW.PrintWords Go.Proofs.YthkjkmgbdahggaaGreatW.PrintLast Go.Proofs.YthkjkmgbdahggaaGreatW.PrintMore Go.Proofs.YthkjkmgbdahggaaGreat.Sq
attribute [local go_sem] max2_int min2_int max_two min_two max_three min_three max_four min_four   -- for this text's walks alone
set_option linter.unusedVariables false
set_option linter.unusedSimpArgs false
def impl_Block_last.f (a0_0 : Int) (a0_1 : Int) : Option (Int) := (impl_Block_size.f a0_0 a0_1).bind fun t294 => (some (wrap64 ((wrap64 (a0_0 + t294)) - 1)))
set_option maxHeartbeats 8000000 in
set_option maxRecDepth 100000 in
theorem impl_Block_last.calls (a0_0 : Int) (a0_1 : Int) (r : Int) (w : World) (h : impl_Block_last.f a0_0 a0_1 = some r) :
  Calls Tryz.prog 42 #[.agg #[.int .i64 a0_0, .int .i64 a0_1]] w fun e w' => e = .returned (.int .i64 r) ∧ Below w.heap.size w w' := by
 have hu32 := Tryz.underlying32
 have HB := Aside0.mk (Below.refl w.heap.size w)
 have H : ((impl_Block_size.f a0_0 a0_1).bind fun t294 => (some (wrap64 ((wrap64 (a0_0 + t294)) - 1)))) = some r := h
 clear h
 replace H := bd H
 obtain ⟨t294, A2, H⟩ := H
 replace H : (some (wrap64 ((wrap64 (a0_0 + t294)) - 1))) = some r := H
 obtain rfl := Option.some.inj H
 go_enter Tryz.func42, Tryz.ntmps42
 try go_wp2_with (first | (refine be 1 #[.int .i64 a0_0, .int .i64 a0_1] 32 ?_; intro gb293 hg w3 hbox hb; have BK293 := Aside0.mk hbox; have GW293 := Aside0.mk (zz16 : w.heap.size ≤ gb293); have GE293 := Aside0.mk (zz16 : w.heap.size ≤ gb293); replace HB := Aside0.mk (below_step zz3 hb); clear hb hbox hg))
 replace BK293 := Aside0.mk (blk_drew BK293.out)
 replace HB := Aside0.mk (below_drew1 HB.out)
 refine start_ (n := 7) (S := fun w' => w'.cell? ⟨gb293, 0, none⟩ = some (.int .i64 a0_0) ∧ w'.cell? ⟨gb293, 1, none⟩ = some (.int .i64 a0_1)) (ds := []) (bm 7 0) (by kernel_rfl) rfl rfl ⟨(blk_cell BK293.out 0).trans rfl, (blk_cell BK293.out 1).trans rfl⟩ (fun hHeld => ?_)
 generalize w3.drew = w4 at BK293 HB hHeld ⊢
 refine pu 0 3 (bm 7 1) ?_
 refine tk 1 4 (bm 7 3) ?_
 refine tk 2 5 (bm 7 7) ?_
 refine on 3 (some 6) (bm 7 15) (fun K hK => ?_)
 refine gs Tryz.func30 #[.agg #[.int .i64 a0_0, .int .i64 a0_1]] ?_
 with_reducible refine (impl_Block_size.calls a0_0 a0_1 t294 _ A2.out).mono ?_
 rintro e w5 ⟨rfl, hb⟩
 refine ⟨_, rfl, ?_⟩
 replace BK293 := Aside0.mk (blk_below (g := gb293) (o := .cells #[.int .i64 a0_0, .int .i64 a0_1] 32 (0, 0)) (zz5 BK293) hb)
 replace HB := Aside0.mk (below_step (zz6 GE293) hb)
 (try clear hb)
 (try clear hb2)
 (try clear hk)
 (try clear hi)
 refine hK.out _ _ ⟨(blk_cell BK293.out 0).trans rfl, (blk_cell BK293.out 1).trans rfl⟩ (fun hHeld => ?_)
 clear hK K
 refine nm 6 ?_
 refine pu 4 7 (bm 7 31) ?_
 refine pu 5 8 (bm 7 63) ?_
 refine pu 6 2 (bm 7 127) ?_
 refine done_ (by kernel_rfl) ?_
 try go_wp2
 go_ret
 exact ⟨zz13, zz6 GE293⟩
-- NOT PRINTED: function 43 (slices_Sort_int_int)
-- NOT PRINTED: function 44 (slices_Compact_int_int)
def impl_bounds.l0 : Nat → List Int → List (S32) → Int → Int → Option (List Int)
 | 0, _, _, _, _ => none
 | k + 1, x3, x7, x8, x9 => if x9 < x8 then (if 0 ≤ x9 then (if x9 < (x7.length : Int) then (if x3.length < 17592186044416 then ((some (x3 ++ [(rd_T32 x7 x9).f0] : List Int)).bind fun y314 => ((impl_Block_last.f ((rd_T32 x7 x9).f0) ((rd_T32 x7 x9).f1)).bind fun t317 => (if t317 < 4294967295 then ((impl_Block_last.f ((rd_T32 x7 x9).f0) ((rd_T32 x7 x9).f1)).bind fun t318 => (if y314.length < 17592186044416 then (impl_bounds.l0 k (y314 ++ [wrap64 (t318 + 1)]) x7 x8 (wrap64 (x9 + 1))) else (none))) else (impl_bounds.l0 k y314 x7 x8 (wrap64 (x9 + 1)))))) else (none)) else (none)) else (none)) else (if x3.length < 4611686018427387904 then (some (Go.Proofs.YthkjkmgbdahggaaGreat.SrtN.nrm x3)) else (none))
def impl_bounds.f (k : Nat) (l0 : List (S32)) : Option (List Int) := impl_bounds.l0 k (([0] : List Int)) l0 (l0.length : Int) 0
set_option maxHeartbeats 8000000 in
set_option maxRecDepth 100000 in
theorem impl_bounds.calls (k : Nat) (A0 : Option Addr) (c0 : Nat) (l0 : List (S32)) (r : List Int) (w : World) (hr0 : Kd.C k32 w A0 l0.length l0) (hc0 : l0.length ≤ c0) (h : impl_bounds.f k l0 = some r) :
  Calls Tryz.prog 18 #[.slice A0 l0.length c0] w fun e w' => ∃ v0_ : Value, e = .returned (v0_) ∧ Kd.R (Kd.int .i64) 3 w' w.heap.size (fun _ => True) v0_ r ∧ Below w.heap.size w w' := by
 have hu32 := Tryz.underlying32
 have HR0 := Aside0.mk hr0
 have HC0 := Aside0.mk hc0
 clear hr0 hc0
 have HB := Aside0.mk (Below.refl w.heap.size w)
 have H : (impl_bounds.l0 k (([0] : List Int)) l0 (l0.length : Int) 0) = some r := h
 clear h
 obtain ⟨y309, hy309⟩ : ∃ y_ : List Int, y_ = (([0] : List Int)) := ⟨_, rfl⟩
 replace H : (impl_bounds.l0 k y309 l0 (l0.length : Int) 0) = some r := by first | (rw [hy309]; with_reducible exact H) | (have H2_ := (Option.bind_some _ _).symm.trans H; rw [hy309]; with_reducible exact H2_) | (have H2_ := (Option.bind_some _ _).symm.trans H; with_reducible exact H2_) | with_reducible exact H | (rw [hy309]; exact H) | exact H
 have Ny309 := Aside0.mk hy309
 clear hy309
 have H' := Aside0.mk H
 clear H
 go_enter Tryz.func18, Tryz.ntmps18
 go_wp2_with (first | (refine gt 6 ?_; refine rl (Kd.int .i64) 3 6 ([0] : List Int) [.int .i64 0] ?hp ?_; (case hp => exact zz45); intro v310 w2 ho3 hb hg_ hnew_; clear hg_ hnew_; (first | rw [← Ny309.out] at ho3 | (simp only [Int.reduceToNat] at ho3; rw [← Ny309.out] at ho3)); have HO311 := Aside0.mk (Kd.R_lower ho3 (below_size zz3)); replace HB := Aside0.mk (below_step zz3 hb); clear hb ho3))
 go_loopg [3, 9] k (fun kq v3 v9 w' => ∃ (x3_1 : List Int) (x9_1 : Int), v9 = .int .i64 x9_1 ∧ Aside0 (impl_bounds.l0 kq x3_1 l0 (l0.length : Int) x9_1 = some r) ∧ Aside0 (kq ≤ k) ∧ Aside0 (Kd.R (Kd.int .i64) 3 w' w.heap.size (fun _ => True) v3 x3_1) ∧ Aside0 (Below w.heap.size w w'))
 case atStart => exact ⟨(y309), (0), zz8, H', ⟨Nat.le_refl _⟩, ⟨zz22 HO311⟩, ⟨zz3⟩⟩
 case round =>
  clear H'
  try clear c1
  try clear p2
  obtain ⟨x3_1, x9_1, rfl, HA, HK1, HO_3, HB⟩ := hrel
  cases gk with
  | zero => exact absurd HA.out (by simp [impl_bounds.l0])
  | succ k1 =>
   have H := HA.out
   clear HA
   simp only [impl_bounds.l0] at H
   replace H := ic H
   rcases H with ⟨c4b0, H⟩ | ⟨c4b0, H⟩
   ·replace H := gd H
    obtain ⟨c5b0, H⟩ := H
    replace H := gd H
    obtain ⟨c6b0, H⟩ := H
    replace H := gp H
    obtain ⟨c7, H⟩ := H
    have LMc7 := Aside0.mk c7
    clear c7
    obtain ⟨y314, hy314⟩ : ∃ y_ : List Int, y_ = (x3_1 ++ [(rd_T32 l0 x9_1).f0]) := ⟨_, rfl⟩
    replace H : ((impl_Block_last.f ((rd_T32 l0 x9_1).f0) ((rd_T32 l0 x9_1).f1)).bind fun t317 => (if t317 < 4294967295 then ((impl_Block_last.f ((rd_T32 l0 x9_1).f0) ((rd_T32 l0 x9_1).f1)).bind fun t318 => (if y314.length < 17592186044416 then (impl_bounds.l0 k1 (y314 ++ [wrap64 (t318 + 1)]) l0 (l0.length : Int) (wrap64 (x9_1 + 1))) else (none))) else (impl_bounds.l0 k1 y314 l0 (l0.length : Int) (wrap64 (x9_1 + 1))))) = some r := by first | (rw [hy314]; with_reducible exact H) | (have H2_ := (Option.bind_some _ _).symm.trans H; rw [hy314]; with_reducible exact H2_) | (have H2_ := (Option.bind_some _ _).symm.trans H; with_reducible exact H2_) | with_reducible exact H | (rw [hy314]; exact H) | exact H
    have Ny314 := Aside0.mk hy314
    clear hy314
    replace H := bd H
    obtain ⟨t317, A8, H⟩ := H
    replace H : (if t317 < 4294967295 then ((impl_Block_last.f ((rd_T32 l0 x9_1).f0) ((rd_T32 l0 x9_1).f1)).bind fun t318 => (if y314.length < 17592186044416 then (impl_bounds.l0 k1 (y314 ++ [wrap64 (t318 + 1)]) l0 (l0.length : Int) (wrap64 (x9_1 + 1))) else (none))) else (impl_bounds.l0 k1 y314 l0 (l0.length : Int) (wrap64 (x9_1 + 1)))) = some r := H
    replace H := ic H
    rcases H with ⟨c9b0, H⟩ | ⟨c9b0, H⟩
    ·replace H := Option.bind_eq_some_iff.mp H
     obtain ⟨t318, A100, H⟩ := H
     replace H : (if y314.length < 17592186044416 then (impl_bounds.l0 k1 (y314 ++ [wrap64 (t318 + 1)]) l0 (l0.length : Int) (wrap64 (x9_1 + 1))) else (none)) = some r := H
     have A10 := Aside0.mk A100
     clear A100
     replace H := gp H
     obtain ⟨c11, H⟩ := H
     have LMc11 := Aside0.mk c11
     clear c11
     obtain ⟨y319, hy319⟩ : ∃ y_ : List Int, y_ = (y314 ++ [wrap64 (t318 + 1)]) := ⟨_, rfl⟩
     replace H : (impl_bounds.l0 k1 y319 l0 (l0.length : Int) (wrap64 (x9_1 + 1))) = some r := by first | (rw [hy319]; with_reducible exact H) | (have H2_ := (Option.bind_some _ _).symm.trans H; rw [hy319]; with_reducible exact H2_) | (have H2_ := (Option.bind_some _ _).symm.trans H; with_reducible exact H2_) | with_reducible exact H | (rw [hy319]; exact H) | exact H
     have Ny319 := Aside0.mk hy319
     clear hy319
     have H' := Aside0.mk H
     clear H
     obtain ⟨⟨ad312, e312, hx312_0, hx312_1⟩, p312, q312⟩ := wi (at_T32 HR0.out x9_1)
     cases e312
     replace hx312_0 := (HB.out.cell (World.block_lt_of_cell? w _ hx312_0)).trans hx312_0
     replace hx312_1 := (HB.out.cell (World.block_lt_of_cell? w _ hx312_1)).trans hx312_1
     go_wp2_with (first | (refine be 5 #[.int .i64 0, .int .i64 0] 32 ?_; intro gb313 hg w12 hbox hb; replace HO_3 := Aside0.mk (Kd.R_below (zz22 HO_3) hb); have BK313 := Aside0.mk hbox; have GW313 := Aside0.mk (zz16 : w.heap.size ≤ gb313); have GE313 := Aside0.mk (zz16 : w.heap.size ≤ gb313); replace HB := Aside0.mk (below_step zz3 hb); clear hb hbox hg; have hcz13_0 : w12.cell? ⟨gb313, 0, none⟩ = some (.int .i64 0) := (blk_cell BK313.out 0).trans rfl; have hcz13_1 : w12.cell? ⟨gb313, 1, none⟩ = some (.int .i64 0) := (blk_cell BK313.out 1).trans rfl; have hfz13_0 := blk_frozen BK313.out 0; have hfz13_1 := blk_frozen BK313.out 1) | ((with_reducible refine gate_builtin (b := .append) (xs := #[.tmp 13, .tmp 16]) rfl ?_); at_builtin; refine Kd.R_append (Kd.int .i64) (w0 := w) w.heap.size rfl (.tmp 13) (.tmp 16) 43 3 (.int .i64 0) 8 rfl Tryz.underlying43 info3 rfl (by decide) (by omega) u3 x3_1 ((rd_T32 l0 x9_1).f0) [.int .i64 ((rd_T32 l0 x9_1).f0)] (fun _ => True) (fun _ => False) rfl zz26 ?aP (fun _ hk => hk.elim) ?aF ?aO ?aB ?aS ?aL ?_; (case aP => exact rfl); (case aB => exact zz6 GE313); (case aF => exact zz21); (case aO => (with_reducible repeat (first | apply Kd.R_alloc | apply Kd.R_drewN | apply Kd.R_drew)); exact Kd.R_mono (Kd.R_far (p := ⟨gb313, 1, none⟩) (Kd.R_far (p := ⟨gb313, 0, none⟩) (Kd.R_types HO_3.out BK313.out (by decide)) (fun _ hk => hk.2) (.int .i64 ((rd_T32 l0 x9_1).f0))) (fun _ hk => hk.2) (.int .i64 ((rd_T32 l0 x9_1).f1))) (fun _ hk => trivial)); (case aS => exact zz27 GE313); (case aL => exact zz15 LMc7); intro v315 w14 ho hb hg hat; rw [← Ny314.out] at ho; replace BK313 := Aside0.mk (blk_grown (g := gb313) (o := .cells #[.int .i64 ((rd_T32 l0 x9_1).f0), .int .i64 ((rd_T32 l0 x9_1).f1)] 32 (0, 0)) (by (with_reducible repeat (first | refine blk_drewN ?_ _ | refine blk_drew ?_ | refine blk_alloc ?_ _)); refine blk_put (cs := #[.int .i64 ((rd_T32 l0 x9_1).f0), .int .i64 0]) ?_ 1 _ rfl; (with_reducible repeat (first | refine blk_drewN ?_ _ | refine blk_drew ?_ | refine blk_alloc ?_ _)); refine blk_put (cs := #[.int .i64 0, .int .i64 0]) ?_ 0 _ rfl; (with_reducible repeat (first | refine blk_drewN ?_ _ | refine blk_drew ?_ | refine blk_alloc ?_ _)); exact BK313.out) hg (Kd.R_ne HO_3.out BK313.out (by decide))); replace HB := Aside0.mk hb; have HO316 := Aside0.mk ho; clear HO_3 ho hb hg hat; have hcz15_0 : w14.cell? ⟨gb313, 0, none⟩ = some (.int .i64 ((rd_T32 l0 x9_1).f0)) := (blk_cell BK313.out 0).trans rfl; have hcz15_1 : w14.cell? ⟨gb313, 1, none⟩ = some (.int .i64 ((rd_T32 l0 x9_1).f1)) := (blk_cell BK313.out 1).trans rfl; have hfz15_0 := blk_frozen BK313.out 0; have hfz15_1 := blk_frozen BK313.out 1) | (refine gc (some 19) Tryz.func42 #[.agg #[.int .i64 ((rd_T32 l0 x9_1).f0), .int .i64 ((rd_T32 l0 x9_1).f1)]] ?_; (with_reducible refine (impl_Block_last.calls ((rd_T32 l0 x9_1).f0) ((rd_T32 l0 x9_1).f1) t317 _ A8.out).mono ?_); rintro e w16 ⟨rfl, hb⟩; refine ⟨_, rfl, ?_⟩; replace HO316 := Aside0.mk (Kd.R_below (zz22 HO316) hb); replace BK313 := Aside0.mk (blk_below (g := gb313) (o := .cells #[.int .i64 ((rd_T32 l0 x9_1).f0), .int .i64 ((rd_T32 l0 x9_1).f1)] 32 (0, 0)) (zz5 BK313) hb); replace HB := Aside0.mk (below_step (zz6 GE313) hb); clear hb; have hcz17_0 : w16.cell? ⟨gb313, 0, none⟩ = some (.int .i64 ((rd_T32 l0 x9_1).f0)) := (blk_cell BK313.out 0).trans rfl; have hcz17_1 : w16.cell? ⟨gb313, 1, none⟩ = some (.int .i64 ((rd_T32 l0 x9_1).f1)) := (blk_cell BK313.out 1).trans rfl; have hfz17_0 := blk_frozen BK313.out 0; have hfz17_1 := blk_frozen BK313.out 1) | (refine gc (some 23) Tryz.func42 #[.agg #[.int .i64 ((rd_T32 l0 x9_1).f0), .int .i64 ((rd_T32 l0 x9_1).f1)]] ?_; (with_reducible refine (impl_Block_last.calls ((rd_T32 l0 x9_1).f0) ((rd_T32 l0 x9_1).f1) t318 _ A10.out).mono ?_); rintro e w18 ⟨rfl, hb⟩; refine ⟨_, rfl, ?_⟩; replace HO316 := Aside0.mk (Kd.R_below (zz22 HO316) hb); replace BK313 := Aside0.mk (blk_below (g := gb313) (o := .cells #[.int .i64 ((rd_T32 l0 x9_1).f0), .int .i64 ((rd_T32 l0 x9_1).f1)] 32 (0, 0)) (zz5 BK313) hb); replace HB := Aside0.mk (below_step (zz6 GE313) hb); clear hb) | ((with_reducible refine gate_builtin (b := .append) (xs := #[.tmp 21, .tmp 25]) rfl ?_); at_builtin; refine Kd.R_append (Kd.int .i64) (w0 := w) w.heap.size rfl (.tmp 21) (.tmp 25) 43 3 (.int .i64 0) 8 rfl Tryz.underlying43 info3 rfl (by decide) (by omega) v315 y314 (wrap64 (t318 + 1)) [.int .i64 (wrap64 (t318 + 1))] (fun _ => True) (fun _ => False) rfl rfl ?aP (fun _ hk => hk.elim) ?aF ?aO ?aB ?aS ?aL ?_; (case aP => exact rfl); (case aB => exact zz6 GE313); (case aF => exact zz21); (case aO => exact zz22 HO316); (case aS => exact zz27 GE313); (case aL => exact zz15 LMc11); intro v320 w19 ho hb hg hat; rw [← Ny319.out] at ho; replace BK313 := Aside0.mk (blk_grown (g := gb313) (o := .cells #[.int .i64 ((rd_T32 l0 x9_1).f0), .int .i64 ((rd_T32 l0 x9_1).f1)] 32 (0, 0)) (zz5 BK313) hg (Kd.R_ne HO316.out BK313.out (by decide))); replace HB := Aside0.mk hb; have HO321 := Aside0.mk ho; clear HO316 ho hb hg hat))
     go_roundg k1
     case measure => have := HK1.out; omega
     case rel => exact ⟨(y319), (wrap64 (x9_1 + 1)), zz8, H', ⟨zz15 HK1⟩, ⟨zz22 HO321⟩, ⟨zz6 GE313⟩⟩
    ·have H' := Aside0.mk H
     clear H
     obtain ⟨⟨ad312, e312, hx312_0, hx312_1⟩, p312, q312⟩ := wi (at_T32 HR0.out x9_1)
     cases e312
     replace hx312_0 := (HB.out.cell (World.block_lt_of_cell? w _ hx312_0)).trans hx312_0
     replace hx312_1 := (HB.out.cell (World.block_lt_of_cell? w _ hx312_1)).trans hx312_1
     go_wp2_with (first | (refine be 5 #[.int .i64 0, .int .i64 0] 32 ?_; intro gb313 hg w20 hbox hb; replace HO_3 := Aside0.mk (Kd.R_below (zz22 HO_3) hb); have BK313 := Aside0.mk hbox; have GW313 := Aside0.mk (zz16 : w.heap.size ≤ gb313); have GE313 := Aside0.mk (zz16 : w.heap.size ≤ gb313); replace HB := Aside0.mk (below_step zz3 hb); clear hb hbox hg; have hcz21_0 : w20.cell? ⟨gb313, 0, none⟩ = some (.int .i64 0) := (blk_cell BK313.out 0).trans rfl; have hcz21_1 : w20.cell? ⟨gb313, 1, none⟩ = some (.int .i64 0) := (blk_cell BK313.out 1).trans rfl; have hfz21_0 := blk_frozen BK313.out 0; have hfz21_1 := blk_frozen BK313.out 1) | ((with_reducible refine gate_builtin (b := .append) (xs := #[.tmp 13, .tmp 16]) rfl ?_); at_builtin; refine Kd.R_append (Kd.int .i64) (w0 := w) w.heap.size rfl (.tmp 13) (.tmp 16) 43 3 (.int .i64 0) 8 rfl Tryz.underlying43 info3 rfl (by decide) (by omega) u3 x3_1 ((rd_T32 l0 x9_1).f0) [.int .i64 ((rd_T32 l0 x9_1).f0)] (fun _ => True) (fun _ => False) rfl zz26 ?aP (fun _ hk => hk.elim) ?aF ?aO ?aB ?aS ?aL ?_; (case aP => exact rfl); (case aB => exact zz6 GE313); (case aF => exact zz21); (case aO => (with_reducible repeat (first | apply Kd.R_alloc | apply Kd.R_drewN | apply Kd.R_drew)); exact Kd.R_mono (Kd.R_far (p := ⟨gb313, 1, none⟩) (Kd.R_far (p := ⟨gb313, 0, none⟩) (Kd.R_types HO_3.out BK313.out (by decide)) (fun _ hk => hk.2) (.int .i64 ((rd_T32 l0 x9_1).f0))) (fun _ hk => hk.2) (.int .i64 ((rd_T32 l0 x9_1).f1))) (fun _ hk => trivial)); (case aS => exact zz27 GE313); (case aL => exact zz15 LMc7); intro v315 w22 ho hb hg hat; rw [← Ny314.out] at ho; replace BK313 := Aside0.mk (blk_grown (g := gb313) (o := .cells #[.int .i64 ((rd_T32 l0 x9_1).f0), .int .i64 ((rd_T32 l0 x9_1).f1)] 32 (0, 0)) (by (with_reducible repeat (first | refine blk_drewN ?_ _ | refine blk_drew ?_ | refine blk_alloc ?_ _)); refine blk_put (cs := #[.int .i64 ((rd_T32 l0 x9_1).f0), .int .i64 0]) ?_ 1 _ rfl; (with_reducible repeat (first | refine blk_drewN ?_ _ | refine blk_drew ?_ | refine blk_alloc ?_ _)); refine blk_put (cs := #[.int .i64 0, .int .i64 0]) ?_ 0 _ rfl; (with_reducible repeat (first | refine blk_drewN ?_ _ | refine blk_drew ?_ | refine blk_alloc ?_ _)); exact BK313.out) hg (Kd.R_ne HO_3.out BK313.out (by decide))); replace HB := Aside0.mk hb; have HO316 := Aside0.mk ho; clear HO_3 ho hb hg hat; have hcz23_0 : w22.cell? ⟨gb313, 0, none⟩ = some (.int .i64 ((rd_T32 l0 x9_1).f0)) := (blk_cell BK313.out 0).trans rfl; have hcz23_1 : w22.cell? ⟨gb313, 1, none⟩ = some (.int .i64 ((rd_T32 l0 x9_1).f1)) := (blk_cell BK313.out 1).trans rfl; have hfz23_0 := blk_frozen BK313.out 0; have hfz23_1 := blk_frozen BK313.out 1) | (refine gc (some 19) Tryz.func42 #[.agg #[.int .i64 ((rd_T32 l0 x9_1).f0), .int .i64 ((rd_T32 l0 x9_1).f1)]] ?_; (with_reducible refine (impl_Block_last.calls ((rd_T32 l0 x9_1).f0) ((rd_T32 l0 x9_1).f1) t317 _ A8.out).mono ?_); rintro e w24 ⟨rfl, hb⟩; refine ⟨_, rfl, ?_⟩; replace HO316 := Aside0.mk (Kd.R_below (zz22 HO316) hb); replace BK313 := Aside0.mk (blk_below (g := gb313) (o := .cells #[.int .i64 ((rd_T32 l0 x9_1).f0), .int .i64 ((rd_T32 l0 x9_1).f1)] 32 (0, 0)) (zz5 BK313) hb); replace HB := Aside0.mk (below_step (zz6 GE313) hb); clear hb))
     go_roundg k1
     case measure => have := HK1.out; omega
     case rel => exact ⟨(y314), (wrap64 (x9_1 + 1)), zz8, H', ⟨zz15 HK1⟩, ⟨zz22 HO316⟩, ⟨zz6 GE313⟩⟩
   ·obtain ⟨hln_, H⟩ := Option.ite_none_right_eq_some.mp H
    obtain rfl := Option.some.inj H
    go_wp2_with (first | (go_at_call 43; refine (Go.Proofs.YthkjkmgbdahggaaGreat.SrtN.sortN (base := w.heap.size) (zz22 HO_3) zz3 (below_size zz3) hln_).mono ?_; rintro e w1_ ⟨rfl, hr1_, hb1_, hz1_⟩) | (go_at_call 44; refine (Go.Proofs.YthkjkmgbdahggaaGreat.SrtN.compactN hr1_ hb1_ hz1_).mono ?_; rintro e w2_ ⟨v2_, rfl, hr2_, hb2_⟩))
    go_ret
    exact ⟨_, rfl, hr2_, hb2_⟩
mutual
def impl_blocksOf.l0 : Nat → List (S32) → List (List (S34)) → Int → Int → Option ((List (S32)))
 | 0, _, _, _, _ => none
 | k + 1, x3, x8, x9, x10 => if x10 < x9 then (if 0 ≤ x10 then (if x10 < (x8.length : Int) then (impl_blocksOf.l1 k x3 x8 x9 x10 (rd_L4 x8 x10) ((rd_L4 x8 x10).length : Int) 0) else (none)) else (none)) else (some x3)
def impl_blocksOf.l1 : Nat → List (S32) → List (List (S34)) → Int → Int → List (S34) → Int → Int → Option ((List (S32)))
 | 0, _, _, _, _, _, _, _ => none
 | k + 1, x3, x8, x9, x10, x14, x15, x16 => if x16 < x15 then (if 0 ≤ x16 then (if x16 < (x14.length : Int) then (if x3.length < 8796093022208 then (impl_blocksOf.l1 k (x3 ++ [(⟨(rd_T34 x14 x16).f0.f0, (rd_T34 x14 x16).f0.f1⟩ : S32)]) x8 x9 x10 x14 x15 (wrap64 (x16 + 1))) else (none)) else (none)) else (none)) else (impl_blocksOf.l0 k x3 x8 x9 (wrap64 (x10 + 1)))
end
def impl_blocksOf.f (k : Nat) (l0 : List (List (S34))) : Option ((List (S32))) := impl_blocksOf.l0 k ([] : List (S32)) l0 (l0.length : Int) 0
set_option maxHeartbeats 8000000 in
set_option maxRecDepth 100000 in
theorem impl_blocksOf.calls (k : Nat) (A0 : Option Addr) (c0 : Nat) (l0 : List (List (S34))) (r : List (S32)) (w : World) (hr0 : Kd.C (Kd.slice 34 k34) w A0 l0.length l0) (hc0 : l0.length ≤ c0) (h : impl_blocksOf.f k l0 = some r) :
  Calls Tryz.prog 19 #[.slice A0 l0.length c0] w fun e w' => ∃ v0_ : Value, e = .returned (v0_) ∧ Kd.R k32 32 w' w.heap.size (fun _ => True) v0_ r ∧ Below w.heap.size w w' := by
 have hu34 := Tryz.underlying34
 have hu32 := Tryz.underlying32
 have HR0 := Aside0.mk hr0
 have HC0 := Aside0.mk hc0
 clear hr0 hc0
 have HB := Aside0.mk (Below.refl w.heap.size w)
 have H : (impl_blocksOf.l0 k ([] : List (S32)) l0 (l0.length : Int) 0) = some r := h
 clear h
 have H' := Aside0.mk H
 clear H
 go_enter Tryz.func19, Tryz.ntmps19
 go_wp2
 go_loopg [3, 10] k (fun kq v3 v10 w' => ∃ (x3_1 : List (S32)) (x10_1 : Int), v10 = .int .i64 x10_1 ∧ Aside0 (impl_blocksOf.l0 kq x3_1 l0 (l0.length : Int) x10_1 = some r) ∧ Aside0 (kq ≤ k) ∧ Aside0 (Kd.R k32 32 w' w.heap.size (fun _ => True) v3 x3_1) ∧ Aside0 (Below w.heap.size w w'))
 case atStart => exact ⟨(([] : List (S32))), (0), zz8, H', ⟨Nat.le_refl _⟩, ⟨zz46⟩, ⟨zz3⟩⟩
 case round =>
  clear H'
  try clear c1
  obtain ⟨x3_1, x10_1, rfl, HA, HK1, HO_3, HB⟩ := hrel
  cases gk with
  | zero => exact absurd HA.out (by simp [impl_blocksOf.l0])
  | succ k1 =>
   have H := HA.out
   clear HA
   simp only [impl_blocksOf.l0] at H
   replace H := ic H
   rcases H with ⟨c2b0, H⟩ | ⟨c2b0, H⟩
   ·replace H := gd H
    obtain ⟨c3b0, H⟩ := H
    replace H := gd H
    obtain ⟨c4b0, H⟩ := H
    have H' := Aside0.mk H
    clear H
    have p322 : 0 ≤ (x10_1 : Int) := da
    have q322 : x10_1 < (l0.length : Int) := da
    obtain ⟨ad322, A322_0, c322_0, e322, hx322_0, hl322_0, hi322_0⟩ := at_L4 HR0.out x10_1 p322 q322
    cases e322
    replace hx322_0 := (HB.out.cell (World.block_lt_of_cell? w _ hx322_0)).trans hx322_0
    have HR322_0 := Aside0.mk hi322_0
    have HC322_0 := Aside0.mk hl322_0
    clear hi322_0 hl322_0
    replace p322 := eq_true p322
    replace q322 := eq_true q322
    go_wp2
    go_loopg [3, 16] k1 (fun kq v3 v16 w' => ∃ (x3_2 : List (S32)) (x16_2 : Int), v16 = .int .i64 x16_2 ∧ Aside0 (impl_blocksOf.l1 kq x3_2 l0 (l0.length : Int) x10_1 (rd_L4 l0 x10_1) ((rd_L4 l0 x10_1).length : Int) x16_2 = some r) ∧ Aside0 (kq ≤ k1) ∧ Aside0 (Kd.R k32 32 w' w.heap.size (fun _ => True) v3 x3_2) ∧ Aside0 (Below w.heap.size w w'))
    case atStart => exact ⟨(x3_1), (0), zz8, H', ⟨Nat.le_refl _⟩, ⟨zz22 HO_3⟩, ⟨zz3⟩⟩
    case round =>
     clear H'
     try clear c1
     try clear c2
     try clear c2b0
     try clear p2
     try clear c3
     try clear c3b0
     try clear p3
     try clear q3
     try clear hx3
     try clear c4
     try clear c4b0
     try clear hx322_0
     try clear p322
     try clear q322
     obtain ⟨x3_2, x16_2, rfl, HA, HK2, HO_3, HB⟩ := hrel
     cases gk with
     | zero => exact absurd HA.out (by simp [impl_blocksOf.l1])
     | succ k2 =>
      have H := HA.out
      clear HA
      simp only [impl_blocksOf.l1] at H
      replace H := ic H
      rcases H with ⟨c5b0, H⟩ | ⟨c5b0, H⟩
      ·replace H := gd H
       obtain ⟨c6b0, H⟩ := H
       replace H := gd H
       obtain ⟨c7b0, H⟩ := H
       replace H := gp H
       obtain ⟨c8, H⟩ := H
       have LMc8 := Aside0.mk c8
       clear c8
       obtain ⟨y325, hy325⟩ : ∃ y_ : List (S32), y_ = (x3_2 ++ [(⟨(rd_T34 (rd_L4 l0 x10_1) x16_2).f0.f0, (rd_T34 (rd_L4 l0 x10_1) x16_2).f0.f1⟩ : S32)]) := ⟨_, rfl⟩
       replace H : (impl_blocksOf.l1 k2 y325 l0 (l0.length : Int) x10_1 (rd_L4 l0 x10_1) ((rd_L4 l0 x10_1).length : Int) (wrap64 (x16_2 + 1))) = some r := by first | (rw [hy325]; with_reducible exact H) | (have H2_ := (Option.bind_some _ _).symm.trans H; rw [hy325]; with_reducible exact H2_) | (have H2_ := (Option.bind_some _ _).symm.trans H; with_reducible exact H2_) | with_reducible exact H | (rw [hy325]; exact H) | exact H
       have Ny325 := Aside0.mk hy325
       clear hy325
       have H' := Aside0.mk H
       clear H
       obtain ⟨⟨ad323, e323, hx323_0, hx323_1, hx323_2⟩, p323, q323⟩ := wi (at_T34 HR322_0.out x16_2)
       cases e323
       replace hx323_0 := (HB.out.cell (World.block_lt_of_cell? w _ hx323_0)).trans hx323_0
       replace hx323_1 := (HB.out.cell (World.block_lt_of_cell? w _ hx323_1)).trans hx323_1
       replace hx323_2 := (HB.out.cell (World.block_lt_of_cell? w _ hx323_2)).trans hx323_2
       go_wp2_with (first | (refine be 7 #[.int .i64 0, .int .i64 0, .int .i64 0] 34 ?_; intro gb324 hg w9 hbox hb; replace HO_3 := Aside0.mk (Kd.R_below (zz22 HO_3) hb); have BK324 := Aside0.mk hbox; have GW324 := Aside0.mk (zz16 : w.heap.size ≤ gb324); have GE324 := Aside0.mk (zz16 : w.heap.size ≤ gb324); replace HB := Aside0.mk (below_step zz3 hb); clear hb hbox hg; have hcz10_0 : w9.cell? ⟨gb324, 0, none⟩ = some (.int .i64 0) := (blk_cell BK324.out 0).trans rfl; have hcz10_1 : w9.cell? ⟨gb324, 1, none⟩ = some (.int .i64 0) := (blk_cell BK324.out 1).trans rfl; have hcz10_2 : w9.cell? ⟨gb324, 2, none⟩ = some (.int .i64 0) := (blk_cell BK324.out 2).trans rfl; have hfz10_0 := blk_frozen BK324.out 0; have hfz10_1 := blk_frozen BK324.out 1; have hfz10_2 := blk_frozen BK324.out 2) | ((with_reducible refine gate_builtin (b := .append) (xs := #[.tmp 20, .tmp 23]) rfl ?_); at_builtin; refine Kd.R_append k32 (w0 := w) w.heap.size rfl (.tmp 20) (.tmp 23) 26 32 (.agg #[(.int .i64 0), (.int .i64 0)]) 16 rfl Tryz.underlying26 info32 rfl (by decide) (by omega) u3 x3_2 (⟨(rd_T34 (rd_L4 l0 x10_1) x16_2).f0.f0, (rd_T34 (rd_L4 l0 x10_1) x16_2).f0.f1⟩ : S32) [.int .i64 ((rd_T34 (rd_L4 l0 x10_1) x16_2).f0.f0), .int .i64 ((rd_T34 (rd_L4 l0 x10_1) x16_2).f0.f1)] (fun _ => True) (fun _ => False) rfl zz26 ?aP (fun _ hk => hk.elim) ?aF ?aO ?aB ?aS ?aL ?_; (case aP => exact k32_mkM _ _ _ (⟨(rd_T34 (rd_L4 l0 x10_1) x16_2).f0.f0, (rd_T34 (rd_L4 l0 x10_1) x16_2).f0.f1⟩ : S32)); (case aB => exact zz6 GE324); (case aF => exact zz21); (case aO => (with_reducible repeat (first | apply Kd.R_alloc | apply Kd.R_drewN | apply Kd.R_drew)); exact Kd.R_mono (Kd.R_far (p := ⟨gb324, 2, none⟩) (Kd.R_far (p := ⟨gb324, 1, none⟩) (Kd.R_far (p := ⟨gb324, 0, none⟩) (Kd.R_types HO_3.out BK324.out (by decide)) (fun _ hk => hk.2) (.int .i64 ((rd_T34 (rd_L4 l0 x10_1) x16_2).f0.f0))) (fun _ hk => hk.2) (.int .i64 ((rd_T34 (rd_L4 l0 x10_1) x16_2).f0.f1))) (fun _ hk => hk.2) (.int .i64 ((rd_T34 (rd_L4 l0 x10_1) x16_2).f1))) (fun _ hk => trivial)); (case aS => exact zz27 GE324); (case aL => exact zz15 LMc8); intro v326 w11 ho hb hg hat; rw [← Ny325.out] at ho; replace BK324 := Aside0.mk (blk_grown (g := gb324) (o := .cells #[.int .i64 ((rd_T34 (rd_L4 l0 x10_1) x16_2).f0.f0), .int .i64 ((rd_T34 (rd_L4 l0 x10_1) x16_2).f0.f1), .int .i64 ((rd_T34 (rd_L4 l0 x10_1) x16_2).f1)] 34 (0, 0)) (by (with_reducible repeat (first | refine blk_drewN ?_ _ | refine blk_drew ?_ | refine blk_alloc ?_ _)); refine blk_put (cs := #[.int .i64 ((rd_T34 (rd_L4 l0 x10_1) x16_2).f0.f0), .int .i64 ((rd_T34 (rd_L4 l0 x10_1) x16_2).f0.f1), .int .i64 0]) ?_ 2 _ rfl; (with_reducible repeat (first | refine blk_drewN ?_ _ | refine blk_drew ?_ | refine blk_alloc ?_ _)); refine blk_put (cs := #[.int .i64 ((rd_T34 (rd_L4 l0 x10_1) x16_2).f0.f0), .int .i64 0, .int .i64 0]) ?_ 1 _ rfl; (with_reducible repeat (first | refine blk_drewN ?_ _ | refine blk_drew ?_ | refine blk_alloc ?_ _)); refine blk_put (cs := #[.int .i64 0, .int .i64 0, .int .i64 0]) ?_ 0 _ rfl; (with_reducible repeat (first | refine blk_drewN ?_ _ | refine blk_drew ?_ | refine blk_alloc ?_ _)); exact BK324.out) hg (Kd.R_ne HO_3.out BK324.out (by decide))); replace HB := Aside0.mk hb; have HO327 := Aside0.mk ho; clear HO_3 ho hb hg hat))
       go_roundg k2
       case measure => have := HK1.out; have := HK2.out; omega
       case rel => exact ⟨(y325), (wrap64 (x16_2 + 1)), zz8, H', ⟨zz39 HK1 HK2⟩, ⟨zz22 HO327⟩, ⟨zz6 GE324⟩⟩
      ·have H' := Aside0.mk H
       clear H
       go_wp2
       go_roundg k2
       case measure => have := HK1.out; have := HK2.out; omega
       case rel => exact ⟨(x3_2), (wrap64 (x10_1 + 1)), zz8, H', ⟨zz39 HK1 HK2⟩, ⟨zz22 HO_3⟩, ⟨zz3⟩⟩
   ·obtain rfl := Option.some.inj H
    go_wp2
    go_ret
    exact ⟨_, zz13, zz22 HO_3, zz3⟩
def impl_Block_has.f (a0_0 : Int) (a0_1 : Int) (a1 : Int) : Option (Bool) := (impl_Block_last.f a0_0 a0_1).bind fun t329 => ((impl_in.f a1 a0_0 t329).bind fun t330 => (some t330))
set_option maxHeartbeats 8000000 in
set_option maxRecDepth 100000 in
theorem impl_Block_has.calls (a0_0 : Int) (a0_1 : Int) (a1 : Int) (r : Bool) (w : World) (h : impl_Block_has.f a0_0 a0_1 a1 = some r) :
  Calls Tryz.prog 36 #[.agg #[.int .i64 a0_0, .int .i64 a0_1], .int .i64 a1] w fun e w' => e = .returned (.bool r) ∧ Below w.heap.size w w' := by
 have hu32 := Tryz.underlying32
 have HB := Aside0.mk (Below.refl w.heap.size w)
 have H : ((impl_Block_last.f a0_0 a0_1).bind fun t329 => ((impl_in.f a1 a0_0 t329).bind fun t330 => (some t330))) = some r := h
 clear h
 replace H := bd H
 obtain ⟨t329, A3, H⟩ := H
 replace H : ((impl_in.f a1 a0_0 t329).bind fun t330 => (some t330)) = some r := H
 replace H := bd H
 obtain ⟨t330, A4, H⟩ := H
 replace H : (some t330) = some r := H
 obtain rfl := Option.some.inj H
 go_enter Tryz.func36, Tryz.ntmps36
 try go_wp2_with (first | (refine be 2 #[.int .i64 a0_0, .int .i64 a0_1] 32 ?_; intro gb328 hg w5 hbox hb; have BK328 := Aside0.mk hbox; have GW328 := Aside0.mk (zz16 : w.heap.size ≤ gb328); have GE328 := Aside0.mk (zz16 : w.heap.size ≤ gb328); replace HB := Aside0.mk (below_step zz3 hb); clear hb hbox hg))
 replace BK328 := Aside0.mk (blk_drew BK328.out)
 replace HB := Aside0.mk (below_drew1 HB.out)
 refine start_ (n := 7) (S := fun w' => w'.cell? ⟨gb328, 0, none⟩ = some (.int .i64 a0_0) ∧ w'.cell? ⟨gb328, 1, none⟩ = some (.int .i64 a0_1)) (ds := []) (bm 7 0) (by kernel_rfl) rfl rfl ⟨(blk_cell BK328.out 0).trans rfl, (blk_cell BK328.out 1).trans rfl⟩ (fun hHeld => ?_)
 generalize w5.drew = w6 at BK328 HB hHeld ⊢
 refine pu 0 5 (bm 7 1) ?_
 refine pu 1 6 (bm 7 3) ?_
 refine tk 2 7 (bm 7 7) ?_
 refine tk 3 8 (bm 7 15) ?_
 refine on 4 (some 9) (bm 7 31) (fun K hK => ?_)
 refine gs Tryz.func42 #[.agg #[.int .i64 a0_0, .int .i64 a0_1]] ?_
 with_reducible refine (impl_Block_last.calls a0_0 a0_1 t329 _ A3.out).mono ?_
 rintro e w7 ⟨rfl, hb⟩
 refine ⟨_, rfl, ?_⟩
 replace BK328 := Aside0.mk (blk_below (g := gb328) (o := .cells #[.int .i64 a0_0, .int .i64 a0_1] 32 (0, 0)) (zz5 BK328) hb)
 replace HB := Aside0.mk (below_step (zz6 GE328) hb)
 (try clear hb)
 (try clear hb2)
 (try clear hk)
 (try clear hi)
 refine hK.out _ _ ⟨(blk_cell BK328.out 0).trans rfl, (blk_cell BK328.out 1).trans rfl⟩ (fun hHeld => ?_)
 clear hK K
 refine nm 9 ?_
 refine on 5 (some 10) (bm 7 63) (fun K hK => ?_)
 refine gs Tryz.func17 #[.int .i64 a1, .int .i64 a0_0, .int .i64 t329] ?_
 with_reducible refine (impl_in.calls a1 a0_0 t329 t330 _ A4.out).mono ?_
 rintro e w' ⟨rfl, ⟨nd, rfl⟩⟩
 refine ⟨_, rfl, ?_⟩
 refine hK.out _ _ ⟨(blk_cell BK328.out 0).trans rfl, (blk_cell BK328.out 1).trans rfl⟩ (fun hHeld => ?_)
 clear hK K
 refine nm 10 ?_
 refine pu 6 4 (bm 7 127) ?_
 refine done_ (by kernel_rfl) ?_
 try go_wp2
 go_ret
 exact ⟨zz13, zz6 GE328⟩
def impl_lead.l0 : Nat → Int → List (S34) → Int → Int → Int → Int → Int → Option (Int)
 | 0, _, _, _, _, _, _, _ => none
 | k + 1, x1, x10, x11, x12, x332000, x332001, x332002 => if x12 < x11 then (if 0 ≤ x12 then (if x12 < (x10.length : Int) then ((impl_Block_has.f ((rd_T34 x10 x12).f0.f0) ((rd_T34 x10 x12).f0.f1) x1).bind fun t334 => (if t334 = true then (if ((rd_T34 x10 x12).f0.f1) > x332001 then (impl_lead.l0 k x1 x10 x11 (wrap64 (x12 + 1)) ((rd_T34 x10 x12).f0.f0) ((rd_T34 x10 x12).f0.f1) ((rd_T34 x10 x12).f1)) else (impl_lead.l0 k x1 x10 x11 (wrap64 (x12 + 1)) x332000 x332001 x332002)) else (impl_lead.l0 k x1 x10 x11 (wrap64 (x12 + 1)) x332000 x332001 x332002))) else (none)) else (none)) else (some x332002)
def impl_lead.f (k : Nat) (l0 : List (S34)) (a1 : Int) : Option (Int) := impl_lead.l0 k a1 l0 (l0.length : Int) 0 0 (-1) (-1)
set_option maxHeartbeats 8000000 in
set_option maxRecDepth 100000 in
theorem impl_lead.calls (k : Nat) (A0 : Option Addr) (c0 : Nat) (l0 : List (S34)) (a1 : Int) (r : Int) (w : World) (hr0 : Kd.C k34 w A0 l0.length l0) (hc0 : l0.length ≤ c0) (h : impl_lead.f k l0 a1 = some r) :
  Calls Tryz.prog 20 #[.slice A0 l0.length c0, .int .i64 a1] w fun e w' => e = .returned (.int .i64 r) ∧ Below w.heap.size w w' := by
 have hu32 := Tryz.underlying32
 have hu34 := Tryz.underlying34
 have HR0 := Aside0.mk hr0
 have HC0 := Aside0.mk hc0
 clear hr0 hc0
 have HB := Aside0.mk (Below.refl w.heap.size w)
 have H : (impl_lead.l0 k a1 l0 (l0.length : Int) 0 0 (-1) (-1)) = some r := h
 clear h
 have H' := Aside0.mk H
 clear H
 go_enter Tryz.func20, Tryz.ntmps20
 go_wp2_with (first | (refine be 5 #[.int .i64 0, .int .i64 0, .int .i64 0] 34 ?_; intro gb331 hg w3 hbox hb; have BK331 := Aside0.mk hbox; have GW331 := Aside0.mk (zz16 : w.heap.size ≤ gb331); have GE331 := Aside0.mk (zz16 : w.heap.size ≤ gb331); replace HB := Aside0.mk (below_step zz3 hb); clear hb hbox hg; have hcz4_0 : w3.cell? ⟨gb331, 0, none⟩ = some (.int .i64 0) := (blk_cell BK331.out 0).trans rfl; have hcz4_1 : w3.cell? ⟨gb331, 1, none⟩ = some (.int .i64 0) := (blk_cell BK331.out 1).trans rfl; have hcz4_2 : w3.cell? ⟨gb331, 2, none⟩ = some (.int .i64 0) := (blk_cell BK331.out 2).trans rfl; have hfz4_0 := blk_frozen BK331.out 0; have hfz4_1 := blk_frozen BK331.out 1; have hfz4_2 := blk_frozen BK331.out 2))
 go_loopg [12] k (fun kq v12 w' => ∃ (x12_1 : Int) (x332000_1 : Int) (x332001_1 : Int) (x332002_1 : Int), v12 = .int .i64 x12_1 ∧ Aside0 (impl_lead.l0 kq a1 l0 (l0.length : Int) x12_1 x332000_1 x332001_1 x332002_1 = some r) ∧ Aside0 (kq ≤ k) ∧ Aside0 (w'.heap[gb331]? = some (.cells #[.int .i64 x332000_1, .int .i64 x332001_1, .int .i64 x332002_1] 34 (0, 0))) ∧ Aside0 (Below w.heap.size w w'))
 case atStart => exact ⟨(0), (0), ((-1)), ((-1)), zz8, H', ⟨Nat.le_refl _⟩, ⟨by (with_reducible repeat (first | refine blk_drewN ?_ _ | refine blk_drew ?_ | refine blk_alloc ?_ _)); refine blk_put (cs := #[.int .i64 0, .int .i64 (-1), .int .i64 0]) ?_ 2 _ rfl; (with_reducible repeat (first | refine blk_drewN ?_ _ | refine blk_drew ?_ | refine blk_alloc ?_ _)); refine blk_put (cs := #[.int .i64 0, .int .i64 0, .int .i64 0]) ?_ 1 _ rfl; (with_reducible repeat (first | refine blk_drewN ?_ _ | refine blk_drew ?_ | refine blk_alloc ?_ _)); refine blk_put (cs := #[.int .i64 0, .int .i64 0, .int .i64 0]) ?_ 0 _ rfl; (with_reducible repeat (first | refine blk_drewN ?_ _ | refine blk_drew ?_ | refine blk_alloc ?_ _)); exact BK331.out⟩, ⟨zz6 GE331⟩⟩
 case round =>
  clear H'
  try clear c2
  try clear p2
  try clear hcz4_0
  try clear hcz4_1
  try clear hcz4_2
  try clear hfz4_0
  try clear hfz4_1
  try clear hfz4_2
  obtain ⟨x12_1, x332000_1, x332001_1, x332002_1, rfl, HA, HK1, BK331, HB⟩ := hrel
  cases gk with
  | zero => exact absurd HA.out (by simp [impl_lead.l0])
  | succ k1 =>
   have H := HA.out
   clear HA
   simp only [impl_lead.l0] at H
   replace H := ic H
   rcases H with ⟨c5b0, H⟩ | ⟨c5b0, H⟩
   ·replace H := gd H
    obtain ⟨c6b0, H⟩ := H
    replace H := gd H
    obtain ⟨c7b0, H⟩ := H
    replace H := bd H
    obtain ⟨t334, A8, H⟩ := H
    replace H : (if t334 = true then (if ((rd_T34 l0 x12_1).f0.f1) > x332001_1 then (impl_lead.l0 k1 a1 l0 (l0.length : Int) (wrap64 (x12_1 + 1)) ((rd_T34 l0 x12_1).f0.f0) ((rd_T34 l0 x12_1).f0.f1) ((rd_T34 l0 x12_1).f1)) else (impl_lead.l0 k1 a1 l0 (l0.length : Int) (wrap64 (x12_1 + 1)) x332000_1 x332001_1 x332002_1)) else (impl_lead.l0 k1 a1 l0 (l0.length : Int) (wrap64 (x12_1 + 1)) x332000_1 x332001_1 x332002_1)) = some r := H
    by_cases c9 : t334 = true
    ·subst c9
     have H1 : (if ((rd_T34 l0 x12_1).f0.f1) > x332001_1 then (impl_lead.l0 k1 a1 l0 (l0.length : Int) (wrap64 (x12_1 + 1)) ((rd_T34 l0 x12_1).f0.f0) ((rd_T34 l0 x12_1).f0.f1) ((rd_T34 l0 x12_1).f1)) else (impl_lead.l0 k1 a1 l0 (l0.length : Int) (wrap64 (x12_1 + 1)) x332000_1 x332001_1 x332002_1)) = some r := by rw [if_pos rfl] at H; exact H
     clear H
     have H := H1
     clear H1
     replace H := ic H
     rcases H with ⟨c10b0, H⟩ | ⟨c10b0, H⟩
     ·have H' := Aside0.mk H
      clear H
      obtain ⟨⟨ad332, e332, hx332_0, hx332_1, hx332_2⟩, p332, q332⟩ := wi (at_T34 HR0.out x12_1)
      cases e332
      replace hx332_0 := (HB.out.cell (World.block_lt_of_cell? w _ hx332_0)).trans hx332_0
      replace hx332_1 := (HB.out.cell (World.block_lt_of_cell? w _ hx332_1)).trans hx332_1
      replace hx332_2 := (HB.out.cell (World.block_lt_of_cell? w _ hx332_2)).trans hx332_2
      go_wp2_with (first | (refine be 7 #[.int .i64 0, .int .i64 0, .int .i64 0] 34 ?_; intro gb333 hg w11 hbox hb; have BK333 := Aside0.mk hbox; have GW333 := Aside0.mk (zz17 GE331 : w.heap.size ≤ gb333); have GE333 := Aside0.mk (zz17 GE331 : w.heap.size ≤ gb333); replace HB := Aside0.mk (below_step (zz6 GE331) hb); have NB331_333 := Aside0.mk (by rw [hg]; exact Nat.ne_of_lt (blk_lt (g := gb331) (o := .cells #[.int .i64 x332000_1, .int .i64 x332001_1, .int .i64 x332002_1] 34 (0, 0)) (zz5 BK331)) : gb331 ≠ gb333); have NB333_331 := Aside0.mk (by rw [hg]; exact Nat.ne_of_gt (blk_lt (g := gb331) (o := .cells #[.int .i64 x332000_1, .int .i64 x332001_1, .int .i64 x332002_1] 34 (0, 0)) (zz5 BK331)) : gb333 ≠ gb331); replace BK331 := Aside0.mk (blk_below (g := gb331) (o := .cells #[.int .i64 x332000_1, .int .i64 x332001_1, .int .i64 x332002_1] 34 (0, 0)) (zz5 BK331) hb); clear hb hbox hg; have hnb12 := NB333_331.out; have hnc12 := NB331_333.out; have hcz13_0 : w11.cell? ⟨gb333, 0, none⟩ = some (.int .i64 0) := (blk_cell BK333.out 0).trans rfl; have hcz13_1 : w11.cell? ⟨gb333, 1, none⟩ = some (.int .i64 0) := (blk_cell BK333.out 1).trans rfl; have hcz13_2 : w11.cell? ⟨gb333, 2, none⟩ = some (.int .i64 0) := (blk_cell BK333.out 2).trans rfl; have hfz13_0 := blk_frozen BK333.out 0; have hfz13_1 := blk_frozen BK333.out 1; have hfz13_2 := blk_frozen BK333.out 2) | (refine gc (some 19) Tryz.func36 #[.agg #[.int .i64 ((rd_T34 l0 x12_1).f0.f0), .int .i64 ((rd_T34 l0 x12_1).f0.f1)], .int .i64 a1] ?_; (with_reducible refine (impl_Block_has.calls ((rd_T34 l0 x12_1).f0.f0) ((rd_T34 l0 x12_1).f0.f1) a1 true _ A8.out).mono ?_); rintro e w14 ⟨rfl, hb⟩; refine ⟨_, rfl, ?_⟩; replace BK331 := Aside0.mk (blk_below (g := gb331) (o := .cells #[.int .i64 x332000_1, .int .i64 x332001_1, .int .i64 x332002_1] 34 (0, 0)) (zz47 NB331_333 BK331) hb); replace BK333 := Aside0.mk (blk_below (g := gb333) (o := .cells #[.int .i64 ((rd_T34 l0 x12_1).f0.f0), .int .i64 ((rd_T34 l0 x12_1).f0.f1), .int .i64 ((rd_T34 l0 x12_1).f1)] 34 (0, 0)) (by (with_reducible repeat (first | refine blk_drewN ?_ _ | refine blk_drew ?_ | refine blk_alloc ?_ _)); refine blk_put (cs := #[.int .i64 ((rd_T34 l0 x12_1).f0.f0), .int .i64 ((rd_T34 l0 x12_1).f0.f1), .int .i64 0]) ?_ 2 _ rfl; (with_reducible repeat (first | refine blk_drewN ?_ _ | refine blk_drew ?_ | refine blk_alloc ?_ _)); refine blk_put (cs := #[.int .i64 ((rd_T34 l0 x12_1).f0.f0), .int .i64 0, .int .i64 0]) ?_ 1 _ rfl; (with_reducible repeat (first | refine blk_drewN ?_ _ | refine blk_drew ?_ | refine blk_alloc ?_ _)); refine blk_put (cs := #[.int .i64 0, .int .i64 0, .int .i64 0]) ?_ 0 _ rfl; (with_reducible repeat (first | refine blk_drewN ?_ _ | refine blk_drew ?_ | refine blk_alloc ?_ _)); exact BK333.out) hb); replace HB := Aside0.mk (below_step (zz18 GE331 GE333) hb); clear hb; have hcz15_0 : w14.cell? ⟨gb333, 0, none⟩ = some (.int .i64 ((rd_T34 l0 x12_1).f0.f0)) := (blk_cell BK333.out 0).trans rfl; have hcz15_1 : w14.cell? ⟨gb333, 1, none⟩ = some (.int .i64 ((rd_T34 l0 x12_1).f0.f1)) := (blk_cell BK333.out 1).trans rfl; have hcz15_2 : w14.cell? ⟨gb333, 2, none⟩ = some (.int .i64 ((rd_T34 l0 x12_1).f1)) := (blk_cell BK333.out 2).trans rfl; have hfz15_0 := blk_frozen BK333.out 0; have hfz15_1 := blk_frozen BK333.out 1; have hfz15_2 := blk_frozen BK333.out 2; have hcz16_0 : w14.cell? ⟨gb331, 0, none⟩ = some (.int .i64 x332000_1) := (blk_cell BK331.out 0).trans rfl; have hcz16_1 : w14.cell? ⟨gb331, 1, none⟩ = some (.int .i64 x332001_1) := (blk_cell BK331.out 1).trans rfl; have hcz16_2 : w14.cell? ⟨gb331, 2, none⟩ = some (.int .i64 x332002_1) := (blk_cell BK331.out 2).trans rfl; have hfz16_0 := blk_frozen BK331.out 0; have hfz16_1 := blk_frozen BK331.out 1; have hfz16_2 := blk_frozen BK331.out 2))
      go_roundg k1
      case measure => have := HK1.out; omega
      case rel => exact ⟨(wrap64 (x12_1 + 1)), ((rd_T34 l0 x12_1).f0.f0), ((rd_T34 l0 x12_1).f0.f1), ((rd_T34 l0 x12_1).f1), zz8, H', ⟨zz15 HK1⟩, ⟨by (with_reducible repeat (first | refine blk_drewN ?_ _ | refine blk_drew ?_ | refine blk_alloc ?_ _)); refine blk_put (cs := #[.int .i64 ((rd_T34 l0 x12_1).f0.f0), .int .i64 ((rd_T34 l0 x12_1).f0.f1), .int .i64 x332002_1]) ?_ 2 _ rfl; (with_reducible repeat (first | refine blk_drewN ?_ _ | refine blk_drew ?_ | refine blk_alloc ?_ _)); refine blk_put (cs := #[.int .i64 ((rd_T34 l0 x12_1).f0.f0), .int .i64 x332001_1, .int .i64 x332002_1]) ?_ 1 _ rfl; (with_reducible repeat (first | refine blk_drewN ?_ _ | refine blk_drew ?_ | refine blk_alloc ?_ _)); refine blk_put (cs := #[.int .i64 x332000_1, .int .i64 x332001_1, .int .i64 x332002_1]) ?_ 0 _ rfl; (with_reducible repeat (first | refine blk_drewN ?_ _ | refine blk_drew ?_ | refine blk_alloc ?_ _)); exact BK331.out⟩, ⟨zz18 GE331 GE333⟩⟩
     ·have H' := Aside0.mk H
      clear H
      obtain ⟨⟨ad332, e332, hx332_0, hx332_1, hx332_2⟩, p332, q332⟩ := wi (at_T34 HR0.out x12_1)
      cases e332
      replace hx332_0 := (HB.out.cell (World.block_lt_of_cell? w _ hx332_0)).trans hx332_0
      replace hx332_1 := (HB.out.cell (World.block_lt_of_cell? w _ hx332_1)).trans hx332_1
      replace hx332_2 := (HB.out.cell (World.block_lt_of_cell? w _ hx332_2)).trans hx332_2
      go_wp2_with (first | (refine be 7 #[.int .i64 0, .int .i64 0, .int .i64 0] 34 ?_; intro gb333 hg w17 hbox hb; have BK333 := Aside0.mk hbox; have GW333 := Aside0.mk (zz17 GE331 : w.heap.size ≤ gb333); have GE333 := Aside0.mk (zz17 GE331 : w.heap.size ≤ gb333); replace HB := Aside0.mk (below_step (zz6 GE331) hb); have NB331_333 := Aside0.mk (by rw [hg]; exact Nat.ne_of_lt (blk_lt (g := gb331) (o := .cells #[.int .i64 x332000_1, .int .i64 x332001_1, .int .i64 x332002_1] 34 (0, 0)) (zz5 BK331)) : gb331 ≠ gb333); have NB333_331 := Aside0.mk (by rw [hg]; exact Nat.ne_of_gt (blk_lt (g := gb331) (o := .cells #[.int .i64 x332000_1, .int .i64 x332001_1, .int .i64 x332002_1] 34 (0, 0)) (zz5 BK331)) : gb333 ≠ gb331); replace BK331 := Aside0.mk (blk_below (g := gb331) (o := .cells #[.int .i64 x332000_1, .int .i64 x332001_1, .int .i64 x332002_1] 34 (0, 0)) (zz5 BK331) hb); clear hb hbox hg; have hnb18 := NB333_331.out; have hnc18 := NB331_333.out; have hcz19_0 : w17.cell? ⟨gb333, 0, none⟩ = some (.int .i64 0) := (blk_cell BK333.out 0).trans rfl; have hcz19_1 : w17.cell? ⟨gb333, 1, none⟩ = some (.int .i64 0) := (blk_cell BK333.out 1).trans rfl; have hcz19_2 : w17.cell? ⟨gb333, 2, none⟩ = some (.int .i64 0) := (blk_cell BK333.out 2).trans rfl; have hfz19_0 := blk_frozen BK333.out 0; have hfz19_1 := blk_frozen BK333.out 1; have hfz19_2 := blk_frozen BK333.out 2) | (refine gc (some 19) Tryz.func36 #[.agg #[.int .i64 ((rd_T34 l0 x12_1).f0.f0), .int .i64 ((rd_T34 l0 x12_1).f0.f1)], .int .i64 a1] ?_; (with_reducible refine (impl_Block_has.calls ((rd_T34 l0 x12_1).f0.f0) ((rd_T34 l0 x12_1).f0.f1) a1 true _ A8.out).mono ?_); rintro e w20 ⟨rfl, hb⟩; refine ⟨_, rfl, ?_⟩; replace BK331 := Aside0.mk (blk_below (g := gb331) (o := .cells #[.int .i64 x332000_1, .int .i64 x332001_1, .int .i64 x332002_1] 34 (0, 0)) (zz47 NB331_333 BK331) hb); replace BK333 := Aside0.mk (blk_below (g := gb333) (o := .cells #[.int .i64 ((rd_T34 l0 x12_1).f0.f0), .int .i64 ((rd_T34 l0 x12_1).f0.f1), .int .i64 ((rd_T34 l0 x12_1).f1)] 34 (0, 0)) (by (with_reducible repeat (first | refine blk_drewN ?_ _ | refine blk_drew ?_ | refine blk_alloc ?_ _)); refine blk_put (cs := #[.int .i64 ((rd_T34 l0 x12_1).f0.f0), .int .i64 ((rd_T34 l0 x12_1).f0.f1), .int .i64 0]) ?_ 2 _ rfl; (with_reducible repeat (first | refine blk_drewN ?_ _ | refine blk_drew ?_ | refine blk_alloc ?_ _)); refine blk_put (cs := #[.int .i64 ((rd_T34 l0 x12_1).f0.f0), .int .i64 0, .int .i64 0]) ?_ 1 _ rfl; (with_reducible repeat (first | refine blk_drewN ?_ _ | refine blk_drew ?_ | refine blk_alloc ?_ _)); refine blk_put (cs := #[.int .i64 0, .int .i64 0, .int .i64 0]) ?_ 0 _ rfl; (with_reducible repeat (first | refine blk_drewN ?_ _ | refine blk_drew ?_ | refine blk_alloc ?_ _)); exact BK333.out) hb); replace HB := Aside0.mk (below_step (zz18 GE331 GE333) hb); clear hb; have hcz21_0 : w20.cell? ⟨gb333, 0, none⟩ = some (.int .i64 ((rd_T34 l0 x12_1).f0.f0)) := (blk_cell BK333.out 0).trans rfl; have hcz21_1 : w20.cell? ⟨gb333, 1, none⟩ = some (.int .i64 ((rd_T34 l0 x12_1).f0.f1)) := (blk_cell BK333.out 1).trans rfl; have hcz21_2 : w20.cell? ⟨gb333, 2, none⟩ = some (.int .i64 ((rd_T34 l0 x12_1).f1)) := (blk_cell BK333.out 2).trans rfl; have hfz21_0 := blk_frozen BK333.out 0; have hfz21_1 := blk_frozen BK333.out 1; have hfz21_2 := blk_frozen BK333.out 2; have hcz22_0 : w20.cell? ⟨gb331, 0, none⟩ = some (.int .i64 x332000_1) := (blk_cell BK331.out 0).trans rfl; have hcz22_1 : w20.cell? ⟨gb331, 1, none⟩ = some (.int .i64 x332001_1) := (blk_cell BK331.out 1).trans rfl; have hcz22_2 : w20.cell? ⟨gb331, 2, none⟩ = some (.int .i64 x332002_1) := (blk_cell BK331.out 2).trans rfl; have hfz22_0 := blk_frozen BK331.out 0; have hfz22_1 := blk_frozen BK331.out 1; have hfz22_2 := blk_frozen BK331.out 2))
      go_roundg k1
      case measure => have := HK1.out; omega
      case rel => exact ⟨(wrap64 (x12_1 + 1)), (x332000_1), (x332001_1), (x332002_1), zz8, H', ⟨zz15 HK1⟩, ⟨zz5 BK331⟩, ⟨zz18 GE331 GE333⟩⟩
    ·replace c9 := Bool.eq_false_iff.mpr c9
     subst c9
     have H1 : (impl_lead.l0 k1 a1 l0 (l0.length : Int) (wrap64 (x12_1 + 1)) x332000_1 x332001_1 x332002_1) = some r := by rw [if_neg (show ¬ (false = true) by decide)] at H; exact H
     clear H
     have H := H1
     clear H1
     have H' := Aside0.mk H
     clear H
     obtain ⟨⟨ad332, e332, hx332_0, hx332_1, hx332_2⟩, p332, q332⟩ := wi (at_T34 HR0.out x12_1)
     cases e332
     replace hx332_0 := (HB.out.cell (World.block_lt_of_cell? w _ hx332_0)).trans hx332_0
     replace hx332_1 := (HB.out.cell (World.block_lt_of_cell? w _ hx332_1)).trans hx332_1
     replace hx332_2 := (HB.out.cell (World.block_lt_of_cell? w _ hx332_2)).trans hx332_2
     go_wp2_with (first | (refine be 7 #[.int .i64 0, .int .i64 0, .int .i64 0] 34 ?_; intro gb333 hg w23 hbox hb; have BK333 := Aside0.mk hbox; have GW333 := Aside0.mk (zz17 GE331 : w.heap.size ≤ gb333); have GE333 := Aside0.mk (zz17 GE331 : w.heap.size ≤ gb333); replace HB := Aside0.mk (below_step (zz6 GE331) hb); have NB331_333 := Aside0.mk (by rw [hg]; exact Nat.ne_of_lt (blk_lt (g := gb331) (o := .cells #[.int .i64 x332000_1, .int .i64 x332001_1, .int .i64 x332002_1] 34 (0, 0)) (zz5 BK331)) : gb331 ≠ gb333); have NB333_331 := Aside0.mk (by rw [hg]; exact Nat.ne_of_gt (blk_lt (g := gb331) (o := .cells #[.int .i64 x332000_1, .int .i64 x332001_1, .int .i64 x332002_1] 34 (0, 0)) (zz5 BK331)) : gb333 ≠ gb331); replace BK331 := Aside0.mk (blk_below (g := gb331) (o := .cells #[.int .i64 x332000_1, .int .i64 x332001_1, .int .i64 x332002_1] 34 (0, 0)) (zz5 BK331) hb); clear hb hbox hg; have hnb24 := NB333_331.out; have hnc24 := NB331_333.out; have hcz25_0 : w23.cell? ⟨gb333, 0, none⟩ = some (.int .i64 0) := (blk_cell BK333.out 0).trans rfl; have hcz25_1 : w23.cell? ⟨gb333, 1, none⟩ = some (.int .i64 0) := (blk_cell BK333.out 1).trans rfl; have hcz25_2 : w23.cell? ⟨gb333, 2, none⟩ = some (.int .i64 0) := (blk_cell BK333.out 2).trans rfl; have hfz25_0 := blk_frozen BK333.out 0; have hfz25_1 := blk_frozen BK333.out 1; have hfz25_2 := blk_frozen BK333.out 2) | (refine gc (some 19) Tryz.func36 #[.agg #[.int .i64 ((rd_T34 l0 x12_1).f0.f0), .int .i64 ((rd_T34 l0 x12_1).f0.f1)], .int .i64 a1] ?_; (with_reducible refine (impl_Block_has.calls ((rd_T34 l0 x12_1).f0.f0) ((rd_T34 l0 x12_1).f0.f1) a1 false _ A8.out).mono ?_); rintro e w26 ⟨rfl, hb⟩; refine ⟨_, rfl, ?_⟩; replace BK331 := Aside0.mk (blk_below (g := gb331) (o := .cells #[.int .i64 x332000_1, .int .i64 x332001_1, .int .i64 x332002_1] 34 (0, 0)) (zz47 NB331_333 BK331) hb); replace BK333 := Aside0.mk (blk_below (g := gb333) (o := .cells #[.int .i64 ((rd_T34 l0 x12_1).f0.f0), .int .i64 ((rd_T34 l0 x12_1).f0.f1), .int .i64 ((rd_T34 l0 x12_1).f1)] 34 (0, 0)) (by (with_reducible repeat (first | refine blk_drewN ?_ _ | refine blk_drew ?_ | refine blk_alloc ?_ _)); refine blk_put (cs := #[.int .i64 ((rd_T34 l0 x12_1).f0.f0), .int .i64 ((rd_T34 l0 x12_1).f0.f1), .int .i64 0]) ?_ 2 _ rfl; (with_reducible repeat (first | refine blk_drewN ?_ _ | refine blk_drew ?_ | refine blk_alloc ?_ _)); refine blk_put (cs := #[.int .i64 ((rd_T34 l0 x12_1).f0.f0), .int .i64 0, .int .i64 0]) ?_ 1 _ rfl; (with_reducible repeat (first | refine blk_drewN ?_ _ | refine blk_drew ?_ | refine blk_alloc ?_ _)); refine blk_put (cs := #[.int .i64 0, .int .i64 0, .int .i64 0]) ?_ 0 _ rfl; (with_reducible repeat (first | refine blk_drewN ?_ _ | refine blk_drew ?_ | refine blk_alloc ?_ _)); exact BK333.out) hb); replace HB := Aside0.mk (below_step (zz18 GE331 GE333) hb); clear hb))
     go_roundg k1
     case measure => have := HK1.out; omega
     case rel => exact ⟨(wrap64 (x12_1 + 1)), (x332000_1), (x332001_1), (x332002_1), zz8, H', ⟨zz15 HK1⟩, ⟨zz5 BK331⟩, ⟨zz18 GE331 GE333⟩⟩
   ·obtain rfl := Option.some.inj H
    have hcz27_0 : wr.cell? ⟨gb331, 0, none⟩ = some (.int .i64 x332000_1) := (blk_cell BK331.out 0).trans rfl
    have hcz27_1 : wr.cell? ⟨gb331, 1, none⟩ = some (.int .i64 x332001_1) := (blk_cell BK331.out 1).trans rfl
    have hcz27_2 : wr.cell? ⟨gb331, 2, none⟩ = some (.int .i64 x332002_1) := (blk_cell BK331.out 2).trans rfl
    have hfz27_0 := blk_frozen BK331.out 0
    have hfz27_1 := blk_frozen BK331.out 1
    have hfz27_2 := blk_frozen BK331.out 2
    go_wp2
    go_ret
    exact ⟨zz13, zz6 GE331⟩
def impl_limited.f (l0 : List (S32)) : Option ((List (S32)) × Bool) := if (l0.length : Int) > 64 then (some (([] : List (S32)), false)) else (some (l0, true))
set_option maxHeartbeats 8000000 in
set_option maxRecDepth 100000 in
theorem impl_limited.calls (P0_ : Nat → Prop) (u9000_ : Value) (l0 : List (S32)) (r1 : List (S32)) (r2 : Bool) (w0 w : World) (hB : Below w0.heap.size w0 w) (ho0 : Kd.R k32 32 w w0.heap.size P0_ u9000_ l0) (h : impl_limited.f l0 = some (r1, r2)) :
  Calls Tryz.prog 21 #[u9000_] w fun e w' => ∃ v0_ : Value, e = .returned (.tuple #[v0_, .bool r2]) ∧ Kd.R k32 32 w' w0.heap.size (fun k_ => (P0_ k_ ∨ w.heap.size ≤ k_)) v0_ r1 ∧ Below w0.heap.size w0 w' ∧ Kept w w' (fun k_ => P0_ k_) := by
 have HO0 := Aside0.mk (show Kd.R k32 32 w w0.heap.size (fun k_ => (P0_ k_ ∨ w.heap.size ≤ k_)) u9000_ l0 from Kd.R_mono ho0 (fun k_ hk => (.inl hk)))
 have HK := Aside0.mk (Kept.refl w (fun k_ => P0_ k_))
 have HW0 := Aside0.mk hB.size
 have HB := Aside0.mk hB
 clear hB
 have H : (if (l0.length : Int) > 64 then (some (([] : List (S32)), false)) else (some (l0, true))) = some (r1, r2) := h
 clear h
 by_cases c2 : (l0.length : Int) > 64
 ·rw [if_pos c2] at H
  have c2b0 : decide (64 < (l0.length : Int)) = true := decide_eq_true c2
  have c2b1 : decide (64 < l0.length) = true := decide_eq_true (by omega)
  clear c2
  simp only [Option.some.injEq, Prod.mk.injEq] at H
  obtain ⟨rfl, rfl⟩ := H
  obtain ⟨Ao3, co3, eo3⟩ := Kd.R_slice HO0.out
  subst eo3
  go_enter Tryz.func21, Tryz.ntmps21
  go_wp2
  go_ret2
  exact ⟨_, zz13, zz46, zz3, zz48⟩
 ·rw [if_neg c2] at H
  have c2b0 : decide (64 < (l0.length : Int)) = false := decide_eq_false c2
  have c2b1 : decide (64 < l0.length) = false := decide_eq_false (by omega)
  clear c2
  simp only [Option.some.injEq, Prod.mk.injEq] at H
  obtain ⟨rfl, rfl⟩ := H
  obtain ⟨Ao4, co4, eo4⟩ := Kd.R_slice HO0.out
  subst eo4
  go_enter Tryz.func21, Tryz.ntmps21
  go_wp2
  go_ret2
  exact ⟨_, zz13, zz22 HO0, zz3, zz48⟩
def impl_span_62.f (l0 : List S50) : Option (List S50) := if l0.length < 8796093022208 then some ((Go.Proofs.YthkjkmgbdahggaaGreat.Srt.srt (l0.map fun x => (x.f0, x.f1))).map fun x => ⟨x.1, x.2⟩) else none
theorem impl_span_62.spans {w : World} {A0 : Option Addr} {c0 : Nat} {l0 : List S50} (hr0 : Kd.C k50 w A0 l0.length l0) : Go.Proofs.YthkjkmgbdahggaaGreat.Srt.Spans w.heap.size w (.slice A0 l0.length c0) (l0.map fun x => (x.f0, x.f1)) := by
 by_cases h0 : l0 = []
 ·subst h0; exact .inl ⟨A0, c0, rfl, rfl⟩
 ·have hp : 0 < l0.length := List.length_pos_iff.2 h0
  obtain ⟨ad, rfl, hc, _⟩ := at_T50 hr0 0 (by omega) (by omega)
  have hbl := World.block_lt_of_cell? _ _ hc
  obtain ⟨b, o, sp⟩ := ad
  have hsp : sp = none := by
   cases sp with
   | none => rfl
   | some x =>
    rw [show ((⟨b, o, some x⟩ : Addr).add ((0 : Int).toNat * 2)) = ⟨b, o, some x⟩ from rfl] at hc
    unfold World.cell? at hc
    split at hc <;> simp at hc
  subst hsp
  refine .inr ⟨b, o, c0, by simp, hbl, fun j hj => ?_⟩
  simp only [List.length_map] at hj
  obtain ⟨ad, e, h1, h2⟩ := at_T50 hr0 (j : Int) (by omega) (by omega)
  cases e
  have ee : (l0.map fun x => (x.f0, x.f1))[j]! = ((rd_T50 l0 (j : Int)).f0, (rd_T50 l0 (j : Int)).f1) := by
   rw [getElem!_pos _ j (by simpa using hj)]; simp [rd_T50, hj]
  rw [ee]
  have ea : (⟨b, o, none⟩ : Addr).add ((j : Int).toNat * 2) = ⟨b, o + j * 2, none⟩ := by
   unfold Addr.add; split
   ·rename_i h; simp at h; simp [h]
   ·simp
  rw [ea] at h1 h2
  exact ⟨h1, h2⟩
theorem impl_span_62.calls (A0 : Option Addr) (c0 : Nat) (l0 : List S50) (r : List S50) (w : World) (hr0 : Kd.C k50 w A0 l0.length l0) (hc0 : l0.length ≤ c0) (h : impl_span_62.f l0 = some r) :
  Calls Tryz.prog 62 #[.func (.func 87) #[] #[.pointer (some ⟨w.heap.size, 0, none⟩)], .func (.func 64) #[] #[]] (w.alloc (.cells #[.slice A0 l0.length c0] 46)) fun e w' => ∃ v0_ : Value, e = .returned (v0_) ∧ Kd.R k50 50 w' w.heap.size (fun _ => True) v0_ r ∧ Below w.heap.size w w' := by
 unfold impl_span_62.f at h
 split at h
 ·rename_i hl
  obtain rfl := Option.some.inj h
  have hB : Below w.heap.size w (w.alloc (.cells #[.slice A0 l0.length c0] 46)) := (Below.refl _ w).alloc (Nat.le_refl _) _
  refine (Go.Proofs.YthkjkmgbdahggaaGreat.Srt.sorted w.heap.size (.slice A0 l0.length c0) (l0.map fun x => (x.f0, x.f1)) (by simp; omega) (by unfold maxLen; simp; omega) _ (by simp) (Boxed.new w _ _).cell ((impl_span_62.spans hr0).below hB |> Go.Proofs.YthkjkmgbdahggaaGreat.Srt.Spans.mono (by simp))).mono ?_
  rintro e w' ⟨v, rfl, hrow, hb⟩
  have hlen := (Go.Proofs.YthkjkmgbdahggaaGreat.Srt.srt_spec (l0.map fun x => (x.f0, x.f1))).1.length_eq
  refine ⟨v, rfl, ⟨fun _ _ => trivial, (Go.Proofs.YthkjkmgbdahggaaGreat.Srt.srt (l0.map fun x => (x.f0, x.f1))).flatMap Go.Proofs.YthkjkmgbdahggaaGreat.Srt.encX, ?_, ⟨?_, ?_⟩⟩, hB.trans (hb.mono (by simp))⟩
  ·simp only [List.length_map] at hrow hlen ⊢
   rw [hlen]
   exact own_weaken hrow (by simp)
  ·rw [Go.Proofs.YthkjkmgbdahggaaGreat.Srt.flat_length]; simp [show k50.sz = 2 from rfl]
  ·intro j p hj
   rw [List.getElem?_map, Option.map_eq_some_iff] at hj
   obtain ⟨x, hx, rfl⟩ := hj
   rw [show k50.sz = 2 from rfl, Go.Proofs.YthkjkmgbdahggaaGreat.Srt.flat_drop _ _ _ hx]
   exact k50_mkM _ _ _ _
 ·cases h
-- NOT PRINTED: function 63 (impl_span_63)
def impl_union_1.f (a0_0 : Int) (a0_1 : Int) (a1_0 : Int) (a1_1 : Int) : Option (Int) := (cmp_Compare_int.f a0_0 a1_0).bind fun t337 => (some t337)
end Go.Proofs.YthkjkmgbdahggaaGreat.PY
