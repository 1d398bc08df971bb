/- A text printed by this session's wip/myprint.py over the kit's print: contracts of functions of the given program, each at what its Lean function says. -/
import Derived.Test.YthkjkmgbdahggaaGreatPYx0
import Derived.Test.YthkjkmgbdahggaaGreatPYx2
import Derived.Test.YthkjkmgbdahggaaGreatPYx14
namespace Go.Proofs.YthkjkmgbdahggaaGreat.PY
open Go.RowKit Go.Proofs.YthkjkmgbdahggaaGreatW.PrintWords Go.Proofs.YthkjkmgbdahggaaGreatW.PrintLast Go.Proofs.YthkjkmgbdahggaaGreatW.PrintMore Go.Proofs.YthkjkmgbdahggaaGreat.Sq
attribute [local go_sem] max2_int min2_int max_two min_two max_three min_three max_four min_four   -- for this text's walks alone
set_option linter.unusedVariables false
set_option linter.unusedSimpArgs false
def spec_l1Last.f (k : Nat) (a0_0 : Int) (a0_1 : Int) : Option (Int) := (spec_l1Size.f k a0_1).bind fun t487 => (some (wrap64 ((wrap64 (a0_0 + t487)) - 1)))
set_option maxHeartbeats 8000000 in
set_option maxRecDepth 100000 in
theorem spec_l1Last.calls (k : Nat) (a0_0 : Int) (a0_1 : Int) (r : Int) (w : World) (h : spec_l1Last.f k a0_0 a0_1 = some r) :
  Calls Tryz.prog 69 #[.agg #[.int .i64 a0_0, .int .i64 a0_1]] w fun e w' => e = .returned (.int .i64 r) ∧ Below w.heap.size w w' := by
 have hu32 := Tryz.underlying32
 have HB := Aside0.mk (Below.refl w.heap.size w)
 have H : ((spec_l1Size.f k a0_1).bind fun t487 => (some (wrap64 ((wrap64 (a0_0 + t487)) - 1)))) = some r := h
 clear h
 replace H := bd H
 obtain ⟨t487, A2, H⟩ := H
 replace H : (some (wrap64 ((wrap64 (a0_0 + t487)) - 1))) = some r := H
 obtain rfl := Option.some.inj H
 go_enter Tryz.func69, Tryz.ntmps69
 go_wp2_with (first | (refine be 1 #[.int .i64 a0_0, .int .i64 a0_1] 32 ?_; intro gb486 hg w3 hbox hb; have BK486 := Aside0.mk hbox; have GW486 := Aside0.mk (zz16 : w.heap.size ≤ gb486); have GE486 := Aside0.mk (zz16 : w.heap.size ≤ gb486); replace HB := Aside0.mk (below_step zz3 hb); clear hb hbox hg; have hcz4_0 : w3.cell? ⟨gb486, 0, none⟩ = some (.int .i64 a0_0) := (blk_cell BK486.out 0).trans rfl; have hcz4_1 : w3.cell? ⟨gb486, 1, none⟩ = some (.int .i64 a0_1) := (blk_cell BK486.out 1).trans rfl; have hfz4_0 := blk_frozen BK486.out 0; have hfz4_1 := blk_frozen BK486.out 1) | (go_at_call 50; (with_reducible refine (spec_l1Size.calls k a0_1 t487 _ A2.out).mono ?_); rintro e w' ⟨rfl, ⟨nd, rfl⟩⟩; (try first | exact ⟨rfl, _, World.drewN_drewN _ _ _⟩ | exact ⟨rfl, _, Eq.trans (World.drewN_drewN _ _ _) (congrArg (World.drewN _) (Nat.add_assoc _ _ _))⟩)))
 repeat (go_quiet (first | (refine be 1 #[.int .i64 a0_0, .int .i64 a0_1] 32 ?_; intro gb486 hg w3 hbox hb; have BK486 := Aside0.mk hbox; have GW486 := Aside0.mk (zz16 : w.heap.size ≤ gb486); have GE486 := Aside0.mk (zz16 : w.heap.size ≤ gb486); replace HB := Aside0.mk (below_step zz3 hb); clear hb hbox hg; have hcz4_0 : w3.cell? ⟨gb486, 0, none⟩ = some (.int .i64 a0_0) := (blk_cell BK486.out 0).trans rfl; have hcz4_1 : w3.cell? ⟨gb486, 1, none⟩ = some (.int .i64 a0_1) := (blk_cell BK486.out 1).trans rfl; have hfz4_0 := blk_frozen BK486.out 0; have hfz4_1 := blk_frozen BK486.out 1) | (go_at_call 50; (with_reducible refine (spec_l1Size.calls k a0_1 t487 _ A2.out).mono ?_); rintro e w' ⟨rfl, ⟨nd, rfl⟩⟩; (try first | exact ⟨rfl, _, World.drewN_drewN _ _ _⟩ | exact ⟨rfl, _, Eq.trans (World.drewN_drewN _ _ _) (congrArg (World.drewN _) (Nat.add_assoc _ _ _))⟩))); try go_wp2_with (first | (refine be 1 #[.int .i64 a0_0, .int .i64 a0_1] 32 ?_; intro gb486 hg w3 hbox hb; have BK486 := Aside0.mk hbox; have GW486 := Aside0.mk (zz16 : w.heap.size ≤ gb486); have GE486 := Aside0.mk (zz16 : w.heap.size ≤ gb486); replace HB := Aside0.mk (below_step zz3 hb); clear hb hbox hg; have hcz4_0 : w3.cell? ⟨gb486, 0, none⟩ = some (.int .i64 a0_0) := (blk_cell BK486.out 0).trans rfl; have hcz4_1 : w3.cell? ⟨gb486, 1, none⟩ = some (.int .i64 a0_1) := (blk_cell BK486.out 1).trans rfl; have hfz4_0 := blk_frozen BK486.out 0; have hfz4_1 := blk_frozen BK486.out 1) | (go_at_call 50; (with_reducible refine (spec_l1Size.calls k a0_1 t487 _ A2.out).mono ?_); rintro e w' ⟨rfl, ⟨nd, rfl⟩⟩; (try first | exact ⟨rfl, _, World.drewN_drewN _ _ _⟩ | exact ⟨rfl, _, Eq.trans (World.drewN_drewN _ _ _) (congrArg (World.drewN _) (Nat.add_assoc _ _ _))⟩))))
 go_ret
 exact ⟨zz13, zz6 GE486⟩
def spec_l3Edges.l0 : Nat → List (S34) → List Int → Int → Option (List Int)
 | 0, _, _, _ => none
 | k + 1, x0, x1, x5 => if x5 < (x0.length : Int) then (if 0 ≤ x5 then ((spec_l3Num.f k x1 ((rd_T34 x0 x5).f0.f0)).bind fun t489 => ((spec_l1Last.f k ((rd_T34 x0 x5).f0.f0) ((rd_T34 x0 x5).f0.f1)).bind fun t493 => (if t493 < 4294967295 then ((spec_l1Last.f k ((rd_T34 x0 x5).f0.f0) ((rd_T34 x0 x5).f0.f1)).bind fun t495 => ((spec_l3Num.f k t489 (wrap64 (t495 + 1))).bind fun t496 => (spec_l3Edges.l0 k x0 t496 (wrap64 (x5 + 1))))) else (spec_l3Edges.l0 k x0 t489 (wrap64 (x5 + 1)))))) else (none)) else (some x1)
def spec_l3Edges.f (k : Nat) (l0 : List (S34)) (l1 : List Int) : Option (List Int) := spec_l3Edges.l0 k l0 l1 0
set_option maxHeartbeats 8000000 in
set_option maxRecDepth 100000 in
theorem spec_l3Edges.calls (k : Nat) (A0 : Option Addr) (c0 : Nat) (l0 : List (S34)) (P1_ : Nat → Prop) (u9000_ : Value) (l1 : List Int) (r : List Int) (w0 w : World) (hB : Below w0.heap.size w0 w) (hr0 : ∀ W_, Kept w W_ (fun k_ => P1_ k_) → Kd.C k34 W_ A0 l0.length l0) (hc0 : l0.length ≤ c0) (ho1 : Kd.R (Kd.int .i64) 3 w w0.heap.size P1_ u9000_ l1) (h : spec_l3Edges.f k l0 l1 = some r) :
  Calls Tryz.prog 51 #[.slice A0 l0.length c0, u9000_] w fun e w' => ∃ v0_ : Value, e = .returned (v0_) ∧ Kd.R (Kd.int .i64) 3 w' w0.heap.size (fun k_ => (P1_ k_ ∨ w.heap.size ≤ k_)) v0_ r ∧ Below w0.heap.size w0 w' ∧ Kept w w' (fun k_ => P1_ k_) := by
 have hu32 := Tryz.underlying32
 have HR0 := Aside0.mk hr0
 have HC0 := Aside0.mk hc0
 clear hr0 hc0
 have HO1 := Aside0.mk (show Kd.R (Kd.int .i64) 3 w w0.heap.size (fun k_ => (P1_ k_ ∨ w.heap.size ≤ k_)) u9000_ l1 from Kd.R_mono ho1 (fun k_ hk => (.inl hk)))
 have HK := Aside0.mk (Kept.refl w (fun k_ => P1_ k_))
 have HW0 := Aside0.mk hB.size
 have HB := Aside0.mk hB
 clear hB
 have H : (spec_l3Edges.l0 k l0 l1 0) = some r := h
 clear h
 have H' := Aside0.mk H
 clear H
 go_enter Tryz.func51, Tryz.ntmps51
 go_wp2
 go_loopg [1, 5] k (fun kq v1 v5 w' => ∃ (x1_1 : List Int) (x5_1 : Int), v5 = .int .i64 x5_1 ∧ Aside0 (spec_l3Edges.l0 kq l0 x1_1 x5_1 = some r) ∧ Aside0 (kq ≤ k) ∧ Aside0 (Kd.R (Kd.int .i64) 3 w' w0.heap.size (fun k_ => (P1_ k_ ∨ w.heap.size ≤ k_)) v1 x1_1) ∧ Aside0 (Kept w w' (fun k_ => P1_ k_)) ∧ Aside0 (Below w0.heap.size w0 w'))
 case atStart => exact ⟨(l1), (0), zz8, H', ⟨Nat.le_refl _⟩, ⟨zz22 HO1⟩, ⟨zz48⟩, ⟨zz3⟩⟩
 case round =>
  clear H'
  try clear p2
  obtain ⟨x1_1, x5_1, rfl, HA, HK1, HO_1, HK, HB⟩ := hrel
  cases gk with
  | zero => exact absurd HA.out (by simp [spec_l3Edges.l0])
  | succ k1 =>
   have H := HA.out
   clear HA
   simp only [spec_l3Edges.l0] at H
   replace H := ic H
   rcases H with ⟨c3b0, H⟩ | ⟨c3b0, H⟩
   ·replace H := gd H
    obtain ⟨c4b0, H⟩ := H
    replace H := bd H
    obtain ⟨t489, A5, H⟩ := H
    replace H : ((spec_l1Last.f k1 ((rd_T34 l0 x5_1).f0.f0) ((rd_T34 l0 x5_1).f0.f1)).bind fun t493 => (if t493 < 4294967295 then ((spec_l1Last.f k1 ((rd_T34 l0 x5_1).f0.f0) ((rd_T34 l0 x5_1).f0.f1)).bind fun t495 => ((spec_l3Num.f k1 t489 (wrap64 (t495 + 1))).bind fun t496 => (spec_l3Edges.l0 k1 l0 t496 (wrap64 (x5_1 + 1))))) else (spec_l3Edges.l0 k1 l0 t489 (wrap64 (x5_1 + 1))))) = some r := H
    replace H := bd H
    obtain ⟨t493, A6, H⟩ := H
    replace H : (if t493 < 4294967295 then ((spec_l1Last.f k1 ((rd_T34 l0 x5_1).f0.f0) ((rd_T34 l0 x5_1).f0.f1)).bind fun t495 => ((spec_l3Num.f k1 t489 (wrap64 (t495 + 1))).bind fun t496 => (spec_l3Edges.l0 k1 l0 t496 (wrap64 (x5_1 + 1))))) else (spec_l3Edges.l0 k1 l0 t489 (wrap64 (x5_1 + 1)))) = some r := H
    replace H := ic H
    rcases H with ⟨c7b0, H⟩ | ⟨c7b0, H⟩
    ·replace H := Option.bind_eq_some_iff.mp H
     obtain ⟨t495, A80, H⟩ := H
     replace H : ((spec_l3Num.f k1 t489 (wrap64 (t495 + 1))).bind fun t496 => (spec_l3Edges.l0 k1 l0 t496 (wrap64 (x5_1 + 1)))) = some r := H
     have A8 := Aside0.mk A80
     clear A80
     replace H := bd H
     obtain ⟨t496, A9, H⟩ := H
     replace H : (spec_l3Edges.l0 k1 l0 t496 (wrap64 (x5_1 + 1))) = some r := H
     have H' := Aside0.mk H
     clear H
     obtain ⟨⟨ad488, e488, hx488_0, hx488_1, hx488_2⟩, p488, q488⟩ := wi (at_T34 (Kd.C_kept_now HR0.out HK.out) x5_1)
     cases e488
     obtain ⟨Ao10, co10, eo10⟩ := Kd.R_slice HO_1.out
     subst eo10
     go_wp2_with (first | (refine gc (some 19) Tryz.func68 #[.slice Ao10 x1_1.length co10, .int .i64 ((rd_T34 l0 x5_1).f0.f0)] ?_; (with_reducible refine (spec_l3Num.calls k1 (fun k_ => some k_ = (.slice Ao10 x1_1.length co10 : Value).ownBlock) (.slice Ao10 x1_1.length co10) x1_1 ((rd_T34 l0 x5_1).f0.f0) t489 w0 _ ?side1 ?side2 A5.out).mono ?_); (case side1 => exact zz3); (case side2 => exact Kd.R_tight rfl HO_1.out); rintro e w11 ⟨v490, rfl, ho0, hb, hkp⟩; refine ⟨_, rfl, ?_⟩; have HO491 := Aside0.mk (Kd.R_mono (ok' := fun k_ => (P1_ k_ ∨ w.heap.size ≤ k_)) ho0 (fun k_ hk_ => Or.elim hk_ (fun hs_ => (HO_1.out.1 k_ (hs_).symm)) (fun hn_ => (.inr (Nat.le_trans (by first | exact HK.out.1 | exact (show Kept w _ (fun k_ => P1_ k_) from zz48).1) hn_))))); replace HK := Aside0.mk (Kept.then_ (S := (fun k_ => P1_ k_)) zz48 hkp (fun k_ hs_ => (fun e_ => (HO_1.out.1 k_ e_.symm)) hs_)); replace HB := Aside0.mk hb; clear HO_1 hb hkp ho0; obtain ⟨⟨ad492, e492, hx492_0, hx492_1, hx492_2⟩, p492, q492⟩ := wi (at_T34 (Kd.C_kept_now HR0.out HK.out) x5_1); obtain rfl : ad488 = ad492 := (by injection e492)) | (refine gc (some 25) Tryz.func69 #[.agg #[.int .i64 ((rd_T34 l0 x5_1).f0.f0), .int .i64 ((rd_T34 l0 x5_1).f0.f1)]] ?_; (with_reducible refine (spec_l1Last.calls k1 ((rd_T34 l0 x5_1).f0.f0) ((rd_T34 l0 x5_1).f0.f1) t493 _ A6.out).mono ?_); rintro e w12 ⟨rfl, hb⟩; refine ⟨_, rfl, ?_⟩; replace HO491 := Aside0.mk (Kd.R_below (zz22 HO491) hb); replace HK := Aside0.mk (Kept.below (S := (fun k_ => P1_ k_)) zz48 hb); replace HB := Aside0.mk (below_step zz3 hb); clear hb; obtain ⟨⟨ad494, e494, hx494_0, hx494_1, hx494_2⟩, p494, q494⟩ := wi (at_T34 (Kd.C_kept_now HR0.out HK.out) x5_1); obtain rfl : ad488 = ad494 := (by injection e494)) | (refine gc (some 33) Tryz.func69 #[.agg #[.int .i64 ((rd_T34 l0 x5_1).f0.f0), .int .i64 ((rd_T34 l0 x5_1).f0.f1)]] ?_; (with_reducible refine (spec_l1Last.calls k1 ((rd_T34 l0 x5_1).f0.f0) ((rd_T34 l0 x5_1).f0.f1) t495 _ A8.out).mono ?_); rintro e w13 ⟨rfl, hb⟩; refine ⟨_, rfl, ?_⟩; replace HO491 := Aside0.mk (Kd.R_below (zz22 HO491) hb); replace HK := Aside0.mk (Kept.below (S := (fun k_ => P1_ k_)) zz48 hb); replace HB := Aside0.mk (below_step zz3 hb); clear hb; obtain ⟨Ao14, co14, eo14⟩ := Kd.R_slice HO491.out; subst eo14) | (refine gc (some 35) Tryz.func68 #[.slice Ao14 t489.length co14, .int .i64 (wrap64 (t495 + 1))] ?_; (with_reducible refine (spec_l3Num.calls k1 (fun k_ => some k_ = (.slice Ao14 t489.length co14 : Value).ownBlock) (.slice Ao14 t489.length co14) t489 (wrap64 (t495 + 1)) t496 w0 _ ?side1 ?side2 A9.out).mono ?_); (case side1 => exact zz3); (case side2 => exact Kd.R_tight rfl HO491.out); rintro e w15 ⟨v497, rfl, ho0, hb, hkp⟩; refine ⟨_, rfl, ?_⟩; have HO498 := Aside0.mk (Kd.R_mono (ok' := fun k_ => (P1_ k_ ∨ w.heap.size ≤ k_)) ho0 (fun k_ hk_ => Or.elim hk_ (fun hs_ => (HO491.out.1 k_ (hs_).symm)) (fun hn_ => (.inr (Nat.le_trans (by first | exact HK.out.1 | exact (show Kept w _ (fun k_ => P1_ k_) from zz48).1) hn_))))); replace HK := Aside0.mk (Kept.then_ (S := (fun k_ => P1_ k_)) zz48 hkp (fun k_ hs_ => (fun e_ => (HO491.out.1 k_ e_.symm)) hs_)); replace HB := Aside0.mk hb; clear HO491 hb hkp ho0))
     go_roundg k1
     case measure => have := HK1.out; omega
     case rel => exact ⟨(t496), (wrap64 (x5_1 + 1)), zz8, H', ⟨zz15 HK1⟩, ⟨zz22 HO498⟩, ⟨zz48⟩, ⟨zz3⟩⟩
    ·have H' := Aside0.mk H
     clear H
     obtain ⟨⟨ad488, e488, hx488_0, hx488_1, hx488_2⟩, p488, q488⟩ := wi (at_T34 (Kd.C_kept_now HR0.out HK.out) x5_1)
     cases e488
     obtain ⟨Ao16, co16, eo16⟩ := Kd.R_slice HO_1.out
     subst eo16
     go_wp2_with (first | (refine gc (some 19) Tryz.func68 #[.slice Ao16 x1_1.length co16, .int .i64 ((rd_T34 l0 x5_1).f0.f0)] ?_; (with_reducible refine (spec_l3Num.calls k1 (fun k_ => some k_ = (.slice Ao16 x1_1.length co16 : Value).ownBlock) (.slice Ao16 x1_1.length co16) x1_1 ((rd_T34 l0 x5_1).f0.f0) t489 w0 _ ?side1 ?side2 A5.out).mono ?_); (case side1 => exact zz3); (case side2 => exact Kd.R_tight rfl HO_1.out); rintro e w17 ⟨v490, rfl, ho0, hb, hkp⟩; refine ⟨_, rfl, ?_⟩; have HO491 := Aside0.mk (Kd.R_mono (ok' := fun k_ => (P1_ k_ ∨ w.heap.size ≤ k_)) ho0 (fun k_ hk_ => Or.elim hk_ (fun hs_ => (HO_1.out.1 k_ (hs_).symm)) (fun hn_ => (.inr (Nat.le_trans (by first | exact HK.out.1 | exact (show Kept w _ (fun k_ => P1_ k_) from zz48).1) hn_))))); replace HK := Aside0.mk (Kept.then_ (S := (fun k_ => P1_ k_)) zz48 hkp (fun k_ hs_ => (fun e_ => (HO_1.out.1 k_ e_.symm)) hs_)); replace HB := Aside0.mk hb; clear HO_1 hb hkp ho0; obtain ⟨⟨ad492, e492, hx492_0, hx492_1, hx492_2⟩, p492, q492⟩ := wi (at_T34 (Kd.C_kept_now HR0.out HK.out) x5_1); obtain rfl : ad488 = ad492 := (by injection e492)) | (refine gc (some 25) Tryz.func69 #[.agg #[.int .i64 ((rd_T34 l0 x5_1).f0.f0), .int .i64 ((rd_T34 l0 x5_1).f0.f1)]] ?_; (with_reducible refine (spec_l1Last.calls k1 ((rd_T34 l0 x5_1).f0.f0) ((rd_T34 l0 x5_1).f0.f1) t493 _ A6.out).mono ?_); rintro e w18 ⟨rfl, hb⟩; refine ⟨_, rfl, ?_⟩; replace HO491 := Aside0.mk (Kd.R_below (zz22 HO491) hb); replace HK := Aside0.mk (Kept.below (S := (fun k_ => P1_ k_)) zz48 hb); replace HB := Aside0.mk (below_step zz3 hb); clear hb))
     go_roundg k1
     case measure => have := HK1.out; omega
     case rel => exact ⟨(t489), (wrap64 (x5_1 + 1)), zz8, H', ⟨zz15 HK1⟩, ⟨zz22 HO491⟩, ⟨zz48⟩, ⟨zz3⟩⟩
   ·obtain rfl := Option.some.inj H
    go_wp2
    go_ret
    exact ⟨_, zz13, zz22 HO_1, zz3, zz48⟩
def spec_l3Lead.l0 : Nat → List (S34) → Int → Int → Int → Int → Option (Int)
 | 0, _, _, _, _, _ => none
 | k + 1, x0, x1, x5, x6, x7 => if x7 < (x0.length : Int) then (if 0 ≤ x7 then ((spec_l1Last.f k ((rd_T34 x0 x7).f0.f0) ((rd_T34 x0 x7).f0.f1)).bind fun t501 => ((spec_l1In.f x1 ((rd_T34 x0 x7).f0.f0) t501).bind fun t502 => (if t502 = true then (if ((rd_T34 x0 x7).f0.f1) > x6 then (spec_l3Lead.l0 k x0 x1 ((rd_T34 x0 x7).f1) ((rd_T34 x0 x7).f0.f1) (wrap64 (x7 + 1))) else (spec_l3Lead.l0 k x0 x1 x5 x6 (wrap64 (x7 + 1)))) else (spec_l3Lead.l0 k x0 x1 x5 x6 (wrap64 (x7 + 1)))))) else (none)) else (some x5)
def spec_l3Lead.f (k : Nat) (l0 : List (S34)) (a1 : Int) : Option (Int) := spec_l3Lead.l0 k l0 a1 (-1) (-1) 0
def spec_l3Lead.T7 : Bool × List (List Nat × List Nat) := (true, [([], []), ([], []), ([1], [1]), ([], []), ([3], [3]), ([0, 2, 4, 4], [0, 2, 4]), ([5, 5], [5]), ([6], [6]), ([7, 6], [6, 7]), ([6], [6]), ([8, 9, 6], [6, 8, 9]), ([6, 10], [6, 10])])
def spec_l3Lead.B7 : List Nat := [0, 0, 2, 0, 8, 31, 63, 127, 255, 127, 1023, 2047]
theorem spec_l3Lead.tab7 : rtab .any (opsOf Tryz.f52 7) = spec_l3Lead.T7 := by kernel_rfl
theorem spec_l3Lead.bits7 : waitsOk spec_l3Lead.T7.2 spec_l3Lead.B7 = true := by kernel_rfl
set_option maxHeartbeats 8000000 in
set_option maxRecDepth 100000 in
theorem spec_l3Lead.calls (k : Nat) (A0 : Option Addr) (c0 : Nat) (l0 : List (S34)) (a1 : Int) (r : Int) (w : World) (hr0 : Kd.C k34 w A0 l0.length l0) (hc0 : l0.length ≤ c0) (h : spec_l3Lead.f k l0 a1 = some r) :
  Calls Tryz.prog 52 #[.slice A0 l0.length c0, .int .i64 a1] w fun e w' => e = .returned (.int .i64 r) ∧ Below w.heap.size w w' := by
 have hu32 := Tryz.underlying32
 have HR0 := Aside0.mk hr0
 have HC0 := Aside0.mk hc0
 clear hr0 hc0
 have HB := Aside0.mk (Below.refl w.heap.size w)
 have H : (spec_l3Lead.l0 k l0 a1 (-1) (-1) 0) = some r := h
 clear h
 have H' := Aside0.mk H
 clear H
 go_enter Tryz.func52, Tryz.ntmps52
 go_wp2
 go_loopg [5, 6, 7] k (fun kq v5 v6 v7 w' => ∃ (x5_1 : Int) (x6_1 : Int) (x7_1 : Int), v5 = .int .i64 x5_1 ∧ v6 = .int .i64 x6_1 ∧ v7 = .int .i64 x7_1 ∧ Aside0 (spec_l3Lead.l0 kq l0 a1 x5_1 x6_1 x7_1 = some r) ∧ Aside0 (kq ≤ k) ∧ Aside0 (Below w.heap.size w w'))
 case atStart => exact ⟨((-1)), ((-1)), (0), zz8, zz8, zz8, H', ⟨Nat.le_refl _⟩, ⟨zz3⟩⟩
 case round =>
  clear H'
  try clear p2
  obtain ⟨x5_1, x6_1, x7_1, rfl, rfl, rfl, HA, HK1, HB⟩ := hrel
  cases gk with
  | zero => exact absurd HA.out (by simp [spec_l3Lead.l0])
  | succ k1 =>
   have H := HA.out
   clear HA
   simp only [spec_l3Lead.l0] at H
   replace H := ic H
   rcases H with ⟨c3b0, H⟩ | ⟨c3b0, H⟩
   ·replace H := gd H
    obtain ⟨c4b0, H⟩ := H
    replace H := bd H
    obtain ⟨t501, A5, H⟩ := H
    replace H : ((spec_l1In.f a1 ((rd_T34 l0 x7_1).f0.f0) t501).bind fun t502 => (if t502 = true then (if ((rd_T34 l0 x7_1).f0.f1) > x6_1 then (spec_l3Lead.l0 k1 l0 a1 ((rd_T34 l0 x7_1).f1) ((rd_T34 l0 x7_1).f0.f1) (wrap64 (x7_1 + 1))) else (spec_l3Lead.l0 k1 l0 a1 x5_1 x6_1 (wrap64 (x7_1 + 1)))) else (spec_l3Lead.l0 k1 l0 a1 x5_1 x6_1 (wrap64 (x7_1 + 1))))) = some r := H
    replace H := bd H
    obtain ⟨t502, A6, H⟩ := H
    replace H : (if t502 = true then (if ((rd_T34 l0 x7_1).f0.f1) > x6_1 then (spec_l3Lead.l0 k1 l0 a1 ((rd_T34 l0 x7_1).f1) ((rd_T34 l0 x7_1).f0.f1) (wrap64 (x7_1 + 1))) else (spec_l3Lead.l0 k1 l0 a1 x5_1 x6_1 (wrap64 (x7_1 + 1)))) else (spec_l3Lead.l0 k1 l0 a1 x5_1 x6_1 (wrap64 (x7_1 + 1)))) = some r := H
    by_cases c7 : t502 = true
    ·subst c7
     have H1 : (if ((rd_T34 l0 x7_1).f0.f1) > x6_1 then (spec_l3Lead.l0 k1 l0 a1 ((rd_T34 l0 x7_1).f1) ((rd_T34 l0 x7_1).f0.f1) (wrap64 (x7_1 + 1))) else (spec_l3Lead.l0 k1 l0 a1 x5_1 x6_1 (wrap64 (x7_1 + 1)))) = some r := by rw [if_pos rfl] at H; exact H
     clear H
     have H := H1
     clear H1
     replace H := ic H
     rcases H with ⟨c8b0, H⟩ | ⟨c8b0, H⟩
     ·have H' := Aside0.mk H
      clear H
      obtain ⟨⟨ad499, e499, hx499_0, hx499_1, hx499_2⟩, p499, q499⟩ := wi (at_T34 HR0.out x7_1)
      cases e499
      replace hx499_0 := (HB.out.cell (World.block_lt_of_cell? w _ hx499_0)).trans hx499_0
      replace hx499_1 := (HB.out.cell (World.block_lt_of_cell? w _ hx499_1)).trans hx499_1
      replace hx499_2 := (HB.out.cell (World.block_lt_of_cell? w _ hx499_2)).trans hx499_2
      try go_wp2_with (first | (refine be 8 #[.int .i64 0, .int .i64 0] 32 ?_; intro gb500 hg w9 hbox hb; have BK500 := Aside0.mk hbox; have GW500 := Aside0.mk (zz16 : w.heap.size ≤ gb500); have GE500 := Aside0.mk (zz16 : w.heap.size ≤ gb500); replace HB := Aside0.mk (below_step zz3 hb); clear hb hbox hg; have hcz10_0 : w9.cell? ⟨gb500, 0, none⟩ = some (.int .i64 0) := (blk_cell BK500.out 0).trans rfl; have hcz10_1 : w9.cell? ⟨gb500, 1, none⟩ = some (.int .i64 0) := (blk_cell BK500.out 1).trans rfl; have hfz10_0 := blk_frozen BK500.out 0; have hfz10_1 := blk_frozen BK500.out 1))
      have n0_ : Aside0 (((w9.setCell ⟨gb500, 0, none⟩ (.int .i64 ((rd_T34 l0 x7_1).f0.f0))).setCell ⟨gb500, 1, none⟩ (.int .i64 ((rd_T34 l0 x7_1).f0.f1))).heap[gb500]? = some (.cells #[.int .i64 ((rd_T34 l0 x7_1).f0.f0), .int .i64 ((rd_T34 l0 x7_1).f0.f1)] 32 (0, 0))) := ⟨by (with_reducible repeat (first | refine blk_drewN ?_ _ | refine blk_drew ?_ | refine blk_alloc ?_ _)); refine blk_put (cs := #[.int .i64 ((rd_T34 l0 x7_1).f0.f0), .int .i64 0]) ?_ 1 _ rfl; (with_reducible repeat (first | refine blk_drewN ?_ _ | refine blk_drew ?_ | refine blk_alloc ?_ _)); refine blk_put (cs := #[.int .i64 0, .int .i64 0]) ?_ 0 _ rfl; (with_reducible repeat (first | refine blk_drewN ?_ _ | refine blk_drew ?_ | refine blk_alloc ?_ _)); exact BK500.out⟩
      have n1_ : Aside0 (Below w.heap.size w ((w9.setCell ⟨gb500, 0, none⟩ (.int .i64 ((rd_T34 l0 x7_1).f0.f0))).setCell ⟨gb500, 1, none⟩ (.int .i64 ((rd_T34 l0 x7_1).f0.f1)))) := ⟨zz6 GE500⟩
      (try clear BK500)
      (try clear HB)
      generalize ((w9.setCell ⟨gb500, 0, none⟩ (.int .i64 ((rd_T34 l0 x7_1).f0.f0))).setCell ⟨gb500, 1, none⟩ (.int .i64 ((rd_T34 l0 x7_1).f0.f1))) = w11 at n0_ n1_ ⊢
      have BK500 := n0_
      have HB := n1_
      clear n0_ n1_
      replace BK500 := Aside0.mk (blk_drew BK500.out)
      replace HB := Aside0.mk (below_drew1 HB.out)
      refine start_ (n := 12) (S := fun w' => w'.cell? ⟨gb500, 0, none⟩ = some (.int .i64 ((rd_T34 l0 x7_1).f0.f0)) ∧ w'.cell? ⟨gb500, 1, none⟩ = some (.int .i64 ((rd_T34 l0 x7_1).f0.f1))) (ds := []) (bm 12 0) (by kernel_rfl) rfl rfl ⟨(blk_cell BK500.out 0).trans rfl, (blk_cell BK500.out 1).trans rfl⟩ (fun hHeld => ?_); refine with_tabW spec_l3Lead.tab7 spec_l3Lead.bits7 (fun HT_ HW_ => ?_)
      generalize w11.drew = w12 at BK500 HB hHeld ⊢
      refine pu 0 20 (bm 12 1) ?_
      refine pu 1 21 (bm 12 3) ?_
      refine tk 2 22 (bm 12 7) ?_
      refine tk 3 23 (bm 12 15) ?_
      refine on 4 (some 24) (bm 12 31) (fun K hK => ?_)
      refine gs Tryz.func69 #[.agg #[.int .i64 ((rd_T34 l0 x7_1).f0.f0), .int .i64 ((rd_T34 l0 x7_1).f0.f1)]] ?_
      with_reducible refine (spec_l1Last.calls k1 ((rd_T34 l0 x7_1).f0.f0) ((rd_T34 l0 x7_1).f0.f1) t501 _ A5.out).mono ?_
      rintro e w13 ⟨rfl, hb⟩
      refine ⟨_, rfl, ?_⟩
      replace BK500 := Aside0.mk (blk_below (g := gb500) (o := .cells #[.int .i64 ((rd_T34 l0 x7_1).f0.f0), .int .i64 ((rd_T34 l0 x7_1).f0.f1)] 32 (0, 0)) (zz5 BK500) hb)
      replace HB := Aside0.mk (below_step (zz6 GE500) hb)
      (try clear hb)
      (try clear hb2)
      (try clear hk)
      (try clear hi)
      refine hK.out _ _ ⟨(blk_cell BK500.out 0).trans rfl, (blk_cell BK500.out 1).trans rfl⟩ (fun hHeld => ?_)
      clear hK K
      refine nm 24 ?_
      refine on 5 (some 25) (bm 12 63) (fun K hK => ?_)
      refine gs Tryz.func24 #[.int .i64 a1, .int .i64 ((rd_T34 l0 x7_1).f0.f0), .int .i64 t501] ?_
      with_reducible refine (spec_l1In.calls a1 ((rd_T34 l0 x7_1).f0.f0) t501 true _ A6.out).mono ?_
      rintro e w' ⟨rfl, ⟨nd, rfl⟩⟩
      refine ⟨_, rfl, ?_⟩
      refine hK.out _ _ ⟨(blk_cell BK500.out 0).trans rfl, (blk_cell BK500.out 1).trans rfl⟩ (fun hHeld => ?_)
      clear hK K
      refine nm 25 ?_
      refine pu 6 26 (bm 12 127) ?_
      refine pu 7 27 (bm 12 255) ?_
      refine pu 9 29 (bm 12 767) ?_
      refine tk 8 28 (bm 12 1023) ?_
      refine pu 10 30 (bm 12 2047) ?_
      refine pu 11 31 (bm 12 4095) ?_
      refine done_ (done_of HT_.out (by kernel_rfl)) ?_
      have hcz14_0 : w13.cell? ⟨gb500, 0, none⟩ = some (.int .i64 ((rd_T34 l0 x7_1).f0.f0)) := (blk_cell BK500.out 0).trans rfl
      have hcz14_1 : w13.cell? ⟨gb500, 1, none⟩ = some (.int .i64 ((rd_T34 l0 x7_1).f0.f1)) := (blk_cell BK500.out 1).trans rfl
      have hfz14_0 := blk_frozen BK500.out 0
      have hfz14_1 := blk_frozen BK500.out 1
      obtain ⟨⟨ad503, e503, hx503_0, hx503_1, hx503_2⟩, p503, q503⟩ := wi (at_T34 HR0.out x7_1)
      obtain rfl : ad499 = ad503 := (by injection e503)
      replace hx503_0 := (HB.out.cell (World.block_lt_of_cell? w _ hx503_0)).trans hx503_0
      replace hx503_1 := (HB.out.cell (World.block_lt_of_cell? w _ hx503_1)).trans hx503_1
      replace hx503_2 := (HB.out.cell (World.block_lt_of_cell? w _ hx503_2)).trans hx503_2
      try go_wp2
      go_roundg k1
      case measure => have := HK1.out; omega
      case rel => exact ⟨((rd_T34 l0 x7_1).f1), ((rd_T34 l0 x7_1).f0.f1), (wrap64 (x7_1 + 1)), zz8, zz8, zz8, H', ⟨zz15 HK1⟩, ⟨zz6 GE500⟩⟩
     ·have H' := Aside0.mk H
      clear H
      obtain ⟨⟨ad499, e499, hx499_0, hx499_1, hx499_2⟩, p499, q499⟩ := wi (at_T34 HR0.out x7_1)
      cases e499
      replace hx499_0 := (HB.out.cell (World.block_lt_of_cell? w _ hx499_0)).trans hx499_0
      replace hx499_1 := (HB.out.cell (World.block_lt_of_cell? w _ hx499_1)).trans hx499_1
      replace hx499_2 := (HB.out.cell (World.block_lt_of_cell? w _ hx499_2)).trans hx499_2
      try go_wp2_with (first | (refine be 8 #[.int .i64 0, .int .i64 0] 32 ?_; intro gb500 hg w15 hbox hb; have BK500 := Aside0.mk hbox; have GW500 := Aside0.mk (zz16 : w.heap.size ≤ gb500); have GE500 := Aside0.mk (zz16 : w.heap.size ≤ gb500); replace HB := Aside0.mk (below_step zz3 hb); clear hb hbox hg; have hcz16_0 : w15.cell? ⟨gb500, 0, none⟩ = some (.int .i64 0) := (blk_cell BK500.out 0).trans rfl; have hcz16_1 : w15.cell? ⟨gb500, 1, none⟩ = some (.int .i64 0) := (blk_cell BK500.out 1).trans rfl; have hfz16_0 := blk_frozen BK500.out 0; have hfz16_1 := blk_frozen BK500.out 1))
      have n0_ : Aside0 (((w15.setCell ⟨gb500, 0, none⟩ (.int .i64 ((rd_T34 l0 x7_1).f0.f0))).setCell ⟨gb500, 1, none⟩ (.int .i64 ((rd_T34 l0 x7_1).f0.f1))).heap[gb500]? = some (.cells #[.int .i64 ((rd_T34 l0 x7_1).f0.f0), .int .i64 ((rd_T34 l0 x7_1).f0.f1)] 32 (0, 0))) := ⟨by (with_reducible repeat (first | refine blk_drewN ?_ _ | refine blk_drew ?_ | refine blk_alloc ?_ _)); refine blk_put (cs := #[.int .i64 ((rd_T34 l0 x7_1).f0.f0), .int .i64 0]) ?_ 1 _ rfl; (with_reducible repeat (first | refine blk_drewN ?_ _ | refine blk_drew ?_ | refine blk_alloc ?_ _)); refine blk_put (cs := #[.int .i64 0, .int .i64 0]) ?_ 0 _ rfl; (with_reducible repeat (first | refine blk_drewN ?_ _ | refine blk_drew ?_ | refine blk_alloc ?_ _)); exact BK500.out⟩
      have n1_ : Aside0 (Below w.heap.size w ((w15.setCell ⟨gb500, 0, none⟩ (.int .i64 ((rd_T34 l0 x7_1).f0.f0))).setCell ⟨gb500, 1, none⟩ (.int .i64 ((rd_T34 l0 x7_1).f0.f1)))) := ⟨zz6 GE500⟩
      (try clear BK500)
      (try clear HB)
      generalize ((w15.setCell ⟨gb500, 0, none⟩ (.int .i64 ((rd_T34 l0 x7_1).f0.f0))).setCell ⟨gb500, 1, none⟩ (.int .i64 ((rd_T34 l0 x7_1).f0.f1))) = w17 at n0_ n1_ ⊢
      have BK500 := n0_
      have HB := n1_
      clear n0_ n1_
      replace BK500 := Aside0.mk (blk_drew BK500.out)
      replace HB := Aside0.mk (below_drew1 HB.out)
      refine start_ (n := 12) (S := fun w' => w'.cell? ⟨gb500, 0, none⟩ = some (.int .i64 ((rd_T34 l0 x7_1).f0.f0)) ∧ w'.cell? ⟨gb500, 1, none⟩ = some (.int .i64 ((rd_T34 l0 x7_1).f0.f1))) (ds := []) (bm 12 0) (by kernel_rfl) rfl rfl ⟨(blk_cell BK500.out 0).trans rfl, (blk_cell BK500.out 1).trans rfl⟩ (fun hHeld => ?_); refine with_tabW spec_l3Lead.tab7 spec_l3Lead.bits7 (fun HT_ HW_ => ?_)
      generalize w17.drew = w18 at BK500 HB hHeld ⊢
      refine pu 0 20 (bm 12 1) ?_
      refine pu 1 21 (bm 12 3) ?_
      refine tk 2 22 (bm 12 7) ?_
      refine tk 3 23 (bm 12 15) ?_
      refine on 4 (some 24) (bm 12 31) (fun K hK => ?_)
      refine gs Tryz.func69 #[.agg #[.int .i64 ((rd_T34 l0 x7_1).f0.f0), .int .i64 ((rd_T34 l0 x7_1).f0.f1)]] ?_
      with_reducible refine (spec_l1Last.calls k1 ((rd_T34 l0 x7_1).f0.f0) ((rd_T34 l0 x7_1).f0.f1) t501 _ A5.out).mono ?_
      rintro e w19 ⟨rfl, hb⟩
      refine ⟨_, rfl, ?_⟩
      replace BK500 := Aside0.mk (blk_below (g := gb500) (o := .cells #[.int .i64 ((rd_T34 l0 x7_1).f0.f0), .int .i64 ((rd_T34 l0 x7_1).f0.f1)] 32 (0, 0)) (zz5 BK500) hb)
      replace HB := Aside0.mk (below_step (zz6 GE500) hb)
      (try clear hb)
      (try clear hb2)
      (try clear hk)
      (try clear hi)
      refine hK.out _ _ ⟨(blk_cell BK500.out 0).trans rfl, (blk_cell BK500.out 1).trans rfl⟩ (fun hHeld => ?_)
      clear hK K
      refine nm 24 ?_
      refine on 5 (some 25) (bm 12 63) (fun K hK => ?_)
      refine gs Tryz.func24 #[.int .i64 a1, .int .i64 ((rd_T34 l0 x7_1).f0.f0), .int .i64 t501] ?_
      with_reducible refine (spec_l1In.calls a1 ((rd_T34 l0 x7_1).f0.f0) t501 true _ A6.out).mono ?_
      rintro e w' ⟨rfl, ⟨nd, rfl⟩⟩
      refine ⟨_, rfl, ?_⟩
      refine hK.out _ _ ⟨(blk_cell BK500.out 0).trans rfl, (blk_cell BK500.out 1).trans rfl⟩ (fun hHeld => ?_)
      clear hK K
      refine nm 25 ?_
      refine pu 6 26 (bm 12 127) ?_
      refine pu 7 27 (bm 12 255) ?_
      refine pu 9 29 (bm 12 767) ?_
      refine tk 8 28 (bm 12 1023) ?_
      refine pu 10 30 (bm 12 2047) ?_
      refine pu 11 31 (bm 12 4095) ?_
      refine done_ (done_of HT_.out (by kernel_rfl)) ?_
      try go_wp2
      go_roundg k1
      case measure => have := HK1.out; omega
      case rel => exact ⟨(x5_1), (x6_1), (wrap64 (x7_1 + 1)), zz8, zz8, zz8, H', ⟨zz15 HK1⟩, ⟨zz6 GE500⟩⟩
    ·replace c7 := Bool.eq_false_iff.mpr c7
     subst c7
     have H1 : (spec_l3Lead.l0 k1 l0 a1 x5_1 x6_1 (wrap64 (x7_1 + 1))) = some r := by rw [if_neg (show ¬ (false = true) by decide)] at H; exact H
     clear H
     have H := H1
     clear H1
     have H' := Aside0.mk H
     clear H
     obtain ⟨⟨ad499, e499, hx499_0, hx499_1, hx499_2⟩, p499, q499⟩ := wi (at_T34 HR0.out x7_1)
     cases e499
     replace hx499_0 := (HB.out.cell (World.block_lt_of_cell? w _ hx499_0)).trans hx499_0
     replace hx499_1 := (HB.out.cell (World.block_lt_of_cell? w _ hx499_1)).trans hx499_1
     replace hx499_2 := (HB.out.cell (World.block_lt_of_cell? w _ hx499_2)).trans hx499_2
     try go_wp2_with (first | (refine be 8 #[.int .i64 0, .int .i64 0] 32 ?_; intro gb500 hg w20 hbox hb; have BK500 := Aside0.mk hbox; have GW500 := Aside0.mk (zz16 : w.heap.size ≤ gb500); have GE500 := Aside0.mk (zz16 : w.heap.size ≤ gb500); replace HB := Aside0.mk (below_step zz3 hb); clear hb hbox hg; have hcz21_0 : w20.cell? ⟨gb500, 0, none⟩ = some (.int .i64 0) := (blk_cell BK500.out 0).trans rfl; have hcz21_1 : w20.cell? ⟨gb500, 1, none⟩ = some (.int .i64 0) := (blk_cell BK500.out 1).trans rfl; have hfz21_0 := blk_frozen BK500.out 0; have hfz21_1 := blk_frozen BK500.out 1))
     have n0_ : Aside0 (((w20.setCell ⟨gb500, 0, none⟩ (.int .i64 ((rd_T34 l0 x7_1).f0.f0))).setCell ⟨gb500, 1, none⟩ (.int .i64 ((rd_T34 l0 x7_1).f0.f1))).heap[gb500]? = some (.cells #[.int .i64 ((rd_T34 l0 x7_1).f0.f0), .int .i64 ((rd_T34 l0 x7_1).f0.f1)] 32 (0, 0))) := ⟨by (with_reducible repeat (first | refine blk_drewN ?_ _ | refine blk_drew ?_ | refine blk_alloc ?_ _)); refine blk_put (cs := #[.int .i64 ((rd_T34 l0 x7_1).f0.f0), .int .i64 0]) ?_ 1 _ rfl; (with_reducible repeat (first | refine blk_drewN ?_ _ | refine blk_drew ?_ | refine blk_alloc ?_ _)); refine blk_put (cs := #[.int .i64 0, .int .i64 0]) ?_ 0 _ rfl; (with_reducible repeat (first | refine blk_drewN ?_ _ | refine blk_drew ?_ | refine blk_alloc ?_ _)); exact BK500.out⟩
     have n1_ : Aside0 (Below w.heap.size w ((w20.setCell ⟨gb500, 0, none⟩ (.int .i64 ((rd_T34 l0 x7_1).f0.f0))).setCell ⟨gb500, 1, none⟩ (.int .i64 ((rd_T34 l0 x7_1).f0.f1)))) := ⟨zz6 GE500⟩
     (try clear BK500)
     (try clear HB)
     generalize ((w20.setCell ⟨gb500, 0, none⟩ (.int .i64 ((rd_T34 l0 x7_1).f0.f0))).setCell ⟨gb500, 1, none⟩ (.int .i64 ((rd_T34 l0 x7_1).f0.f1))) = w22 at n0_ n1_ ⊢
     have BK500 := n0_
     have HB := n1_
     clear n0_ n1_
     replace BK500 := Aside0.mk (blk_drew BK500.out)
     replace HB := Aside0.mk (below_drew1 HB.out)
     refine start_ (n := 12) (S := fun w' => w'.cell? ⟨gb500, 0, none⟩ = some (.int .i64 ((rd_T34 l0 x7_1).f0.f0)) ∧ w'.cell? ⟨gb500, 1, none⟩ = some (.int .i64 ((rd_T34 l0 x7_1).f0.f1))) (ds := []) (bm 12 0) (by kernel_rfl) rfl rfl ⟨(blk_cell BK500.out 0).trans rfl, (blk_cell BK500.out 1).trans rfl⟩ (fun hHeld => ?_); refine with_tabW spec_l3Lead.tab7 spec_l3Lead.bits7 (fun HT_ HW_ => ?_)
     generalize w22.drew = w23 at BK500 HB hHeld ⊢
     refine pu 0 20 (bm 12 1) ?_
     refine pu 1 21 (bm 12 3) ?_
     refine tk 2 22 (bm 12 7) ?_
     refine tk 3 23 (bm 12 15) ?_
     refine on 4 (some 24) (bm 12 31) (fun K hK => ?_)
     refine gs Tryz.func69 #[.agg #[.int .i64 ((rd_T34 l0 x7_1).f0.f0), .int .i64 ((rd_T34 l0 x7_1).f0.f1)]] ?_
     with_reducible refine (spec_l1Last.calls k1 ((rd_T34 l0 x7_1).f0.f0) ((rd_T34 l0 x7_1).f0.f1) t501 _ A5.out).mono ?_
     rintro e w24 ⟨rfl, hb⟩
     refine ⟨_, rfl, ?_⟩
     replace BK500 := Aside0.mk (blk_below (g := gb500) (o := .cells #[.int .i64 ((rd_T34 l0 x7_1).f0.f0), .int .i64 ((rd_T34 l0 x7_1).f0.f1)] 32 (0, 0)) (zz5 BK500) hb)
     replace HB := Aside0.mk (below_step (zz6 GE500) hb)
     (try clear hb)
     (try clear hb2)
     (try clear hk)
     (try clear hi)
     refine hK.out _ _ ⟨(blk_cell BK500.out 0).trans rfl, (blk_cell BK500.out 1).trans rfl⟩ (fun hHeld => ?_)
     clear hK K
     refine nm 24 ?_
     refine on 5 (some 25) (bm 12 63) (fun K hK => ?_)
     refine gs Tryz.func24 #[.int .i64 a1, .int .i64 ((rd_T34 l0 x7_1).f0.f0), .int .i64 t501] ?_
     with_reducible refine (spec_l1In.calls a1 ((rd_T34 l0 x7_1).f0.f0) t501 false _ A6.out).mono ?_
     rintro e w' ⟨rfl, ⟨nd, rfl⟩⟩
     refine ⟨_, rfl, ?_⟩
     refine hK.out _ _ ⟨(blk_cell BK500.out 0).trans rfl, (blk_cell BK500.out 1).trans rfl⟩ (fun hHeld => ?_)
     clear hK K
     refine nm 25 ?_
     refine pu 6 26 (bm 12 127) ?_
     refine po 7 27 (bm 12 255) ?_
     refine po 8 28 (bm 12 511) ?_
     refine po 9 29 (bm 12 1023) ?_
     refine po 10 30 (bm 12 2047) ?_
     refine pu 11 31 (bm 12 4095) ?_
     refine done_ (done_of HT_.out (by kernel_rfl)) ?_
     try go_wp2
     go_roundg k1
     case measure => have := HK1.out; omega
     case rel => exact ⟨(x5_1), (x6_1), (wrap64 (x7_1 + 1)), zz8, zz8, zz8, H', ⟨zz15 HK1⟩, ⟨zz6 GE500⟩⟩
   ·obtain rfl := Option.some.inj H
    go_wp2
    go_ret
    exact ⟨zz13, zz3⟩
end Go.Proofs.YthkjkmgbdahggaaGreat.PY
