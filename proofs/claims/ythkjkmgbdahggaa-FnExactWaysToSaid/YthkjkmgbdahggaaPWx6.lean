/- A text printed by this session's wip/myprint.py over the kit's print: contracts of functions of the given program, each at what its Lean function says. -/
import Derived.Test.YthkjkmgbdahggaaPWx0
import Derived.Test.YthkjkmgbdahggaaPWx2
import Derived.Test.YthkjkmgbdahggaaPWx4
import Derived.Test.YthkjkmgbdahggaaPWx5
namespace Go.Proofs.Ythkjkmgbdahggaa.PW
open Go.RowKit Go.Proofs.YthkjkmgbdahggaaW.PrintWords Go.Proofs.YthkjkmgbdahggaaW.PrintLast Go.Proofs.YthkjkmgbdahggaaW.PrintMore Go.Proofs.Ythkjkmgbdahggaa.Sq
attribute [local go_sem] max2_int min2_int max_two min_two max_three min_three max_four min_four   -- for this text's walks alone
set_option linter.unusedVariables false
set_option linter.unusedSimpArgs false

/-! ### spec_l3Edges: function 103 -/
def spec_l3Edges.l0 : Nat → List (S95) → List Int → Int → Option (List Int)
 | 0, _, _, _ => none
 | k + 1, x0, x1, x5 => if x5 < (x0.length : Int) then (if 0 ≤ x5 then ((spec_l3Num.f k x1 ((rd_T95 x0 x5).f0.f0)).bind fun t191 => ((spec_l1Last.f k ((rd_T95 x0 x5).f0.f0) ((rd_T95 x0 x5).f0.f1)).bind fun t195 => (if t195 < 4294967295 then ((spec_l1Last.f k ((rd_T95 x0 x5).f0.f0) ((rd_T95 x0 x5).f0.f1)).bind fun t197 => ((spec_l3Num.f k t191 (wrap64 (t197 + 1))).bind fun t198 => (spec_l3Edges.l0 k x0 t198 (wrap64 (x5 + 1))))) else (spec_l3Edges.l0 k x0 t191 (wrap64 (x5 + 1)))))) else (none)) else (some x1)
def spec_l3Edges.f (k : Nat) (l0 : List (S95)) (l1 : List Int) : Option (List Int) := spec_l3Edges.l0 k l0 l1 0
theorem spec_l3Edges.mono_l : ∀ k, (∀ y0 y1 y2, LeO (spec_l3Edges.l0 k y0 y1 y2) (spec_l3Edges.l0 (k + 1) y0 y1 y2))
 | 0 => fun _ _ _ r h => by simp [spec_l3Edges.l0] at h
 | k + 1 => by
  have ih0 := spec_l3Edges.mono_l k
  ·intro y0 y1 y2
   unfold spec_l3Edges.l0
   repeat' first
   | (with_reducible exact ih0 _ _ _)
   | (with_reducible exact spec_l1Last.mono _ _ _)
   | (with_reducible exact spec_l3Num.mono _ _ _)
   | (with_reducible exact LeO.refl _)
   | (with_reducible exact LeO.none _)
   | (with_reducible refine LeO.ite ?_ ?_)
   | (with_reducible refine LeO.bind ?_ (fun _ => ?_))
   | exact ih0 _ _ _
   | exact spec_l1Last.mono _ _ _
   | exact spec_l3Num.mono _ _ _
   | exact LeO.none _
   | refine LeO.ite ?_ ?_
   | refine LeO.bind ?_ (fun _ => ?_)
theorem spec_l3Edges.mono : ∀ a0 a1 k, LeO (spec_l3Edges.f k a0 a1) (spec_l3Edges.f (k + 1) a0 a1) := by
 intro a0 a1 k
 have ih0 := spec_l3Edges.mono_l k
 unfold spec_l3Edges.f
 repeat' first
   | (with_reducible exact ih0 _ _ _)
   | (with_reducible exact spec_l1Last.mono _ _ _)
   | (with_reducible exact spec_l3Num.mono _ _ _)
   | (with_reducible exact LeO.refl _)
   | (with_reducible exact LeO.none _)
   | (with_reducible refine LeO.ite ?_ ?_)
   | (with_reducible refine LeO.bind ?_ (fun _ => ?_))
   | exact ih0 _ _ _
   | exact spec_l1Last.mono _ _ _
   | exact spec_l3Num.mono _ _ _
   | exact LeO.none _
   | refine LeO.ite ?_ ?_
   | refine LeO.bind ?_ (fun _ => ?_)
set_option maxHeartbeats 8000000 in
set_option maxRecDepth 100000 in
theorem spec_l3Edges.calls (k : Nat) (A0 : Option Addr) (c0 : Nat) (l0 : List (S95)) (P1_ : Nat → Prop) (u9000_ : Value) (l1 : List Int) (r : List Int) (w0 w : World) (hB : Below w0.heap.size w0 w) (hr0 : ∀ W_, Kept w W_ (fun k_ => P1_ k_) → Kd.C k95 W_ A0 l0.length l0) (hc0 : l0.length ≤ c0) (ho1 : Kd.R (Kd.int .i64) 3 w w0.heap.size P1_ u9000_ l1) (h : spec_l3Edges.f k l0 l1 = some r) :
  Calls Try.prog 103 #[.slice A0 l0.length c0, u9000_] w fun e w' => ∃ v0_ : Value, e = .returned (v0_) ∧ Kd.R (Kd.int .i64) 3 w' w0.heap.size (fun k_ => (P1_ k_ ∨ w.heap.size ≤ k_)) v0_ r ∧ Below w0.heap.size w0 w' ∧ Kept w w' (fun k_ => P1_ k_) := by
 have hu40 := Try.underlying40
 have HR0 := Aside0.mk hr0
 have HC0 := Aside0.mk hc0
 clear hr0 hc0
 have HO1 := Aside0.mk (show Kd.R (Kd.int .i64) 3 w w0.heap.size (fun k_ => (P1_ k_ ∨ w.heap.size ≤ k_)) u9000_ l1 from Kd.R_mono ho1 (fun k_ hk => (.inl hk)))
 have HK := Aside0.mk (Kept.refl w (fun k_ => P1_ k_))
 have HW0 := Aside0.mk hB.size
 have HB := Aside0.mk hB
 clear hB
 have H : (spec_l3Edges.l0 k l0 l1 0) = some r := h
 clear h
 have H' := Aside0.mk H
 clear H
 go_enter Try.func103, Try.ntmps103
 go_wp2
 go_loopg [1, 5] k (fun kq v1 v5 w' => ∃ (x1_1 : List Int) (x5_1 : Int), v5 = .int .i64 x5_1 ∧ Aside0 (spec_l3Edges.l0 kq l0 x1_1 x5_1 = some r) ∧ Aside0 (kq ≤ k) ∧ Aside0 (Kd.R (Kd.int .i64) 3 w' w0.heap.size (fun k_ => (P1_ k_ ∨ w.heap.size ≤ k_)) v1 x1_1) ∧ Aside0 (Kept w w' (fun k_ => P1_ k_)) ∧ Aside0 (Below w0.heap.size w0 w'))
 case atStart => exact ⟨(l1), (0), zz8, H', ⟨Nat.le_refl _⟩, ⟨zz13 HO1⟩, ⟨zz18⟩, ⟨zz2⟩⟩
 case round =>
  clear H'
  try clear c1
  try clear p2
  obtain ⟨x1_1, x5_1, rfl, HA, HK1, HO_1, HK, HB⟩ := hrel
  cases gk with
  | zero => exact absurd HA.out (by simp [spec_l3Edges.l0])
  | succ k1 =>
   have H := HA.out
   clear HA
   simp only [spec_l3Edges.l0] at H
   replace H := ic H
   rcases H with ⟨c3b0, H⟩ | ⟨c3b0, H⟩
   ·replace H := gd H
    obtain ⟨c4b0, H⟩ := H
    replace H := bd H
    obtain ⟨t191, A5, H⟩ := H
    replace H : ((spec_l1Last.f k1 ((rd_T95 l0 x5_1).f0.f0) ((rd_T95 l0 x5_1).f0.f1)).bind fun t195 => (if t195 < 4294967295 then ((spec_l1Last.f k1 ((rd_T95 l0 x5_1).f0.f0) ((rd_T95 l0 x5_1).f0.f1)).bind fun t197 => ((spec_l3Num.f k1 t191 (wrap64 (t197 + 1))).bind fun t198 => (spec_l3Edges.l0 k1 l0 t198 (wrap64 (x5_1 + 1))))) else (spec_l3Edges.l0 k1 l0 t191 (wrap64 (x5_1 + 1))))) = some r := H
    replace H := bd H
    obtain ⟨t195, A6, H⟩ := H
    replace H : (if t195 < 4294967295 then ((spec_l1Last.f k1 ((rd_T95 l0 x5_1).f0.f0) ((rd_T95 l0 x5_1).f0.f1)).bind fun t197 => ((spec_l3Num.f k1 t191 (wrap64 (t197 + 1))).bind fun t198 => (spec_l3Edges.l0 k1 l0 t198 (wrap64 (x5_1 + 1))))) else (spec_l3Edges.l0 k1 l0 t191 (wrap64 (x5_1 + 1)))) = some r := H
    replace H := ic H
    rcases H with ⟨c7b0, H⟩ | ⟨c7b0, H⟩
    ·replace H := Option.bind_eq_some_iff.mp H
     obtain ⟨t197, A80, H⟩ := H
     replace H : ((spec_l3Num.f k1 t191 (wrap64 (t197 + 1))).bind fun t198 => (spec_l3Edges.l0 k1 l0 t198 (wrap64 (x5_1 + 1)))) = some r := H
     have A8 := Aside0.mk A80
     clear A80
     replace H := bd H
     obtain ⟨t198, A9, H⟩ := H
     replace H : (spec_l3Edges.l0 k1 l0 t198 (wrap64 (x5_1 + 1))) = some r := H
     have H' := Aside0.mk H
     clear H
     obtain ⟨⟨ad190, e190, hx190_0, hx190_1, hx190_2⟩, p190, q190⟩ := wi (at_T95 (Kd.C_kept_now HR0.out HK.out) x5_1)
     cases e190
     obtain ⟨Ao10, co10, eo10⟩ := Kd.R_slice HO_1.out
     subst eo10
     go_wp2_with (first | (refine gc (some 19) Try.func113 #[.slice Ao10 x1_1.length co10, .int .i64 ((rd_T95 l0 x5_1).f0.f0)] ?_; (with_reducible refine (spec_l3Num.calls k1 (fun k_ => some k_ = (.slice Ao10 x1_1.length co10 : Value).ownBlock) (.slice Ao10 x1_1.length co10) x1_1 ((rd_T95 l0 x5_1).f0.f0) t191 w0 _ ?side1 ?side2 A5.out).mono ?_); (case side1 => exact zz2); (case side2 => exact zz36 HO_1); rintro e w11 ⟨v192, rfl, ho0, hb, hkp⟩; refine ⟨_, rfl, ?_⟩; have HO193 := Aside0.mk (Kd.R_mono (ok' := fun k_ => (P1_ k_ ∨ w.heap.size ≤ k_)) ho0 (fun k_ hk_ => Or.elim hk_ (fun hs_ => (HO_1.out.1 k_ (hs_).symm)) (fun hn_ => (.inr (Nat.le_trans (by first | exact HK.out.1 | exact (show Kept w _ (fun k_ => P1_ k_) from zz18).1) hn_))))); replace HK := Aside0.mk (Kept.then_ (S := (fun k_ => P1_ k_)) zz18 hkp (fun k_ hs_ => (fun e_ => (HO_1.out.1 k_ e_.symm)) hs_)); replace HB := Aside0.mk hb; clear HO_1 hb hkp ho0; obtain ⟨⟨ad194, e194, hx194_0, hx194_1, hx194_2⟩, p194, q194⟩ := wi (at_T95 (Kd.C_kept_now HR0.out HK.out) x5_1); obtain rfl : ad190 = ad194 := (by injection e194)) | (refine gc (some 25) Try.func59 #[.agg #[.int .i64 ((rd_T95 l0 x5_1).f0.f0), .int .i64 ((rd_T95 l0 x5_1).f0.f1)]] ?_; (with_reducible refine (spec_l1Last.calls k1 ((rd_T95 l0 x5_1).f0.f0) ((rd_T95 l0 x5_1).f0.f1) t195 _ A6.out).mono ?_); rintro e w12 ⟨rfl, hb⟩; refine ⟨_, rfl, ?_⟩; replace HO193 := Aside0.mk (Kd.R_below (zz13 HO193) hb); replace HK := Aside0.mk (Kept.below (S := (fun k_ => P1_ k_)) zz18 hb); replace HB := Aside0.mk (below_step zz2 hb); clear hb; obtain ⟨⟨ad196, e196, hx196_0, hx196_1, hx196_2⟩, p196, q196⟩ := wi (at_T95 (Kd.C_kept_now HR0.out HK.out) x5_1); obtain rfl : ad190 = ad196 := (by injection e196)) | (refine gc (some 33) Try.func59 #[.agg #[.int .i64 ((rd_T95 l0 x5_1).f0.f0), .int .i64 ((rd_T95 l0 x5_1).f0.f1)]] ?_; (with_reducible refine (spec_l1Last.calls k1 ((rd_T95 l0 x5_1).f0.f0) ((rd_T95 l0 x5_1).f0.f1) t197 _ A8.out).mono ?_); rintro e w13 ⟨rfl, hb⟩; refine ⟨_, rfl, ?_⟩; replace HO193 := Aside0.mk (Kd.R_below (zz13 HO193) hb); replace HK := Aside0.mk (Kept.below (S := (fun k_ => P1_ k_)) zz18 hb); replace HB := Aside0.mk (below_step zz2 hb); clear hb; obtain ⟨Ao14, co14, eo14⟩ := Kd.R_slice HO193.out; subst eo14) | (refine gc (some 35) Try.func113 #[.slice Ao14 t191.length co14, .int .i64 (wrap64 (t197 + 1))] ?_; (with_reducible refine (spec_l3Num.calls k1 (fun k_ => some k_ = (.slice Ao14 t191.length co14 : Value).ownBlock) (.slice Ao14 t191.length co14) t191 (wrap64 (t197 + 1)) t198 w0 _ ?side1 ?side2 A9.out).mono ?_); (case side1 => exact zz2); (case side2 => exact zz36 HO193); rintro e w15 ⟨v199, rfl, ho0, hb, hkp⟩; refine ⟨_, rfl, ?_⟩; have HO200 := Aside0.mk (Kd.R_mono (ok' := fun k_ => (P1_ k_ ∨ w.heap.size ≤ k_)) ho0 (fun k_ hk_ => Or.elim hk_ (fun hs_ => (HO193.out.1 k_ (hs_).symm)) (fun hn_ => (.inr (Nat.le_trans (by first | exact HK.out.1 | exact (show Kept w _ (fun k_ => P1_ k_) from zz18).1) hn_))))); replace HK := Aside0.mk (Kept.then_ (S := (fun k_ => P1_ k_)) zz18 hkp (fun k_ hs_ => (fun e_ => (HO193.out.1 k_ e_.symm)) hs_)); replace HB := Aside0.mk hb; clear HO193 hb hkp ho0))
     go_roundg k1
     case measure => have := HK1.out; omega
     case rel => exact ⟨(t198), (wrap64 (x5_1 + 1)), zz8, H', ⟨zz9 HK1⟩, ⟨zz13 HO200⟩, ⟨zz18⟩, ⟨zz2⟩⟩
    ·have H' := Aside0.mk H
     clear H
     obtain ⟨⟨ad190, e190, hx190_0, hx190_1, hx190_2⟩, p190, q190⟩ := wi (at_T95 (Kd.C_kept_now HR0.out HK.out) x5_1)
     cases e190
     obtain ⟨Ao16, co16, eo16⟩ := Kd.R_slice HO_1.out
     subst eo16
     go_wp2_with (first | (refine gc (some 19) Try.func113 #[.slice Ao16 x1_1.length co16, .int .i64 ((rd_T95 l0 x5_1).f0.f0)] ?_; (with_reducible refine (spec_l3Num.calls k1 (fun k_ => some k_ = (.slice Ao16 x1_1.length co16 : Value).ownBlock) (.slice Ao16 x1_1.length co16) x1_1 ((rd_T95 l0 x5_1).f0.f0) t191 w0 _ ?side1 ?side2 A5.out).mono ?_); (case side1 => exact zz2); (case side2 => exact zz36 HO_1); rintro e w17 ⟨v192, rfl, ho0, hb, hkp⟩; refine ⟨_, rfl, ?_⟩; have HO193 := Aside0.mk (Kd.R_mono (ok' := fun k_ => (P1_ k_ ∨ w.heap.size ≤ k_)) ho0 (fun k_ hk_ => Or.elim hk_ (fun hs_ => (HO_1.out.1 k_ (hs_).symm)) (fun hn_ => (.inr (Nat.le_trans (by first | exact HK.out.1 | exact (show Kept w _ (fun k_ => P1_ k_) from zz18).1) hn_))))); replace HK := Aside0.mk (Kept.then_ (S := (fun k_ => P1_ k_)) zz18 hkp (fun k_ hs_ => (fun e_ => (HO_1.out.1 k_ e_.symm)) hs_)); replace HB := Aside0.mk hb; clear HO_1 hb hkp ho0; obtain ⟨⟨ad194, e194, hx194_0, hx194_1, hx194_2⟩, p194, q194⟩ := wi (at_T95 (Kd.C_kept_now HR0.out HK.out) x5_1); obtain rfl : ad190 = ad194 := (by injection e194)) | (refine gc (some 25) Try.func59 #[.agg #[.int .i64 ((rd_T95 l0 x5_1).f0.f0), .int .i64 ((rd_T95 l0 x5_1).f0.f1)]] ?_; (with_reducible refine (spec_l1Last.calls k1 ((rd_T95 l0 x5_1).f0.f0) ((rd_T95 l0 x5_1).f0.f1) t195 _ A6.out).mono ?_); rintro e w18 ⟨rfl, hb⟩; refine ⟨_, rfl, ?_⟩; replace HO193 := Aside0.mk (Kd.R_below (zz13 HO193) hb); replace HK := Aside0.mk (Kept.below (S := (fun k_ => P1_ k_)) zz18 hb); replace HB := Aside0.mk (below_step zz2 hb); clear hb))
     go_roundg k1
     case measure => have := HK1.out; omega
     case rel => exact ⟨(t191), (wrap64 (x5_1 + 1)), zz8, H', ⟨zz9 HK1⟩, ⟨zz13 HO193⟩, ⟨zz18⟩, ⟨zz2⟩⟩
   ·obtain rfl := Option.some.inj H
    go_wp2
    go_ret
    exact ⟨_, zz6, zz13 HO_1, zz2, zz18⟩

/-! ### spec_l3Lead: function 104 -/
def spec_l3Lead.l0 : Nat → List (S95) → Int → Int → Int → Int → Option (Int)
 | 0, _, _, _, _, _ => none
 | k + 1, x0, x1, x5, x6, x7 => if x7 < (x0.length : Int) then (if 0 ≤ x7 then ((spec_l1Last.f k ((rd_T95 x0 x7).f0.f0) ((rd_T95 x0 x7).f0.f1)).bind fun t203 => ((spec_l1In.f x1 ((rd_T95 x0 x7).f0.f0) t203).bind fun t204 => (if t204 = true then (if ((rd_T95 x0 x7).f0.f1) > x6 then (spec_l3Lead.l0 k x0 x1 ((rd_T95 x0 x7).f1) ((rd_T95 x0 x7).f0.f1) (wrap64 (x7 + 1))) else (spec_l3Lead.l0 k x0 x1 x5 x6 (wrap64 (x7 + 1)))) else (spec_l3Lead.l0 k x0 x1 x5 x6 (wrap64 (x7 + 1)))))) else (none)) else (some x5)
def spec_l3Lead.f (k : Nat) (l0 : List (S95)) (a1 : Int) : Option (Int) := spec_l3Lead.l0 k l0 a1 (-1) (-1) 0
theorem spec_l3Lead.mono_l : ∀ k, (∀ y0 y1 y2 y3 y4, LeO (spec_l3Lead.l0 k y0 y1 y2 y3 y4) (spec_l3Lead.l0 (k + 1) y0 y1 y2 y3 y4))
 | 0 => fun _ _ _ _ _ r h => by simp [spec_l3Lead.l0] at h
 | k + 1 => by
  have ih0 := spec_l3Lead.mono_l k
  ·intro y0 y1 y2 y3 y4
   unfold spec_l3Lead.l0
   repeat' first
   | (with_reducible exact ih0 _ _ _ _ _)
   | (with_reducible exact spec_l1Last.mono _ _ _)
   | (with_reducible exact LeO.refl _)
   | (with_reducible exact LeO.none _)
   | (with_reducible refine LeO.ite ?_ ?_)
   | (with_reducible refine LeO.bind ?_ (fun _ => ?_))
   | exact ih0 _ _ _ _ _
   | exact spec_l1Last.mono _ _ _
   | exact LeO.none _
   | refine LeO.ite ?_ ?_
   | refine LeO.bind ?_ (fun _ => ?_)
theorem spec_l3Lead.mono : ∀ a0 a1 k, LeO (spec_l3Lead.f k a0 a1) (spec_l3Lead.f (k + 1) a0 a1) := by
 intro a0 a1 k
 have ih0 := spec_l3Lead.mono_l k
 unfold spec_l3Lead.f
 repeat' first
   | (with_reducible exact ih0 _ _ _ _ _)
   | (with_reducible exact spec_l1Last.mono _ _ _)
   | (with_reducible exact LeO.refl _)
   | (with_reducible exact LeO.none _)
   | (with_reducible refine LeO.ite ?_ ?_)
   | (with_reducible refine LeO.bind ?_ (fun _ => ?_))
   | exact ih0 _ _ _ _ _
   | exact spec_l1Last.mono _ _ _
   | exact LeO.none _
   | refine LeO.ite ?_ ?_
   | refine LeO.bind ?_ (fun _ => ?_)
def spec_l3Lead.T7 : Bool × List (List Nat × List Nat) := (true, [([], []), ([], []), ([1], [1]), ([], []), ([3], [3]), ([0, 2, 4, 4], [0, 2, 4]), ([5, 5], [5]), ([6], [6]), ([7, 6], [6, 7]), ([6], [6]), ([8, 9, 6], [6, 8, 9]), ([6, 10], [6, 10])])
def spec_l3Lead.B7 : List Nat := [0, 0, 2, 0, 8, 31, 63, 127, 255, 127, 1023, 2047]
theorem spec_l3Lead.tab7 : rtab .any (opsOf Try.f104 7) = spec_l3Lead.T7 := by kernel_rfl
theorem spec_l3Lead.bits7 : waitsOk spec_l3Lead.T7.2 spec_l3Lead.B7 = true := by kernel_rfl
set_option maxHeartbeats 8000000 in
set_option maxRecDepth 100000 in
theorem spec_l3Lead.calls (k : Nat) (A0 : Option Addr) (c0 : Nat) (l0 : List (S95)) (a1 : Int) (r : Int) (w : World) (hr0 : Kd.C k95 w A0 l0.length l0) (hc0 : l0.length ≤ c0) (h : spec_l3Lead.f k l0 a1 = some r) :
  Calls Try.prog 104 #[.slice A0 l0.length c0, .int .i64 a1] w fun e w' => e = .returned (.int .i64 r) ∧ Below w.heap.size w w' := by
 have hu40 := Try.underlying40
 have HR0 := Aside0.mk hr0
 have HC0 := Aside0.mk hc0
 clear hr0 hc0
 have HB := Aside0.mk (Below.refl w.heap.size w)
 have H : (spec_l3Lead.l0 k l0 a1 (-1) (-1) 0) = some r := h
 clear h
 have H' := Aside0.mk H
 clear H
 go_enter Try.func104, Try.ntmps104
 go_wp2
 go_loopg [5, 6, 7] k (fun kq v5 v6 v7 w' => ∃ (x5_1 : Int) (x6_1 : Int) (x7_1 : Int), v5 = .int .i64 x5_1 ∧ v6 = .int .i64 x6_1 ∧ v7 = .int .i64 x7_1 ∧ Aside0 (spec_l3Lead.l0 kq l0 a1 x5_1 x6_1 x7_1 = some r) ∧ Aside0 (kq ≤ k) ∧ Aside0 (Below w.heap.size w w'))
 case atStart => exact ⟨((-1)), ((-1)), (0), zz8, zz8, zz8, H', ⟨Nat.le_refl _⟩, ⟨zz2⟩⟩
 case round =>
  clear H'
  try clear c1
  try clear p2
  obtain ⟨x5_1, x6_1, x7_1, rfl, rfl, rfl, HA, HK1, HB⟩ := hrel
  cases gk with
  | zero => exact absurd HA.out (by simp [spec_l3Lead.l0])
  | succ k1 =>
   have H := HA.out
   clear HA
   simp only [spec_l3Lead.l0] at H
   replace H := ic H
   rcases H with ⟨c3b0, H⟩ | ⟨c3b0, H⟩
   ·replace H := gd H
    obtain ⟨c4b0, H⟩ := H
    replace H := bd H
    obtain ⟨t203, A5, H⟩ := H
    replace H : ((spec_l1In.f a1 ((rd_T95 l0 x7_1).f0.f0) t203).bind fun t204 => (if t204 = true then (if ((rd_T95 l0 x7_1).f0.f1) > x6_1 then (spec_l3Lead.l0 k1 l0 a1 ((rd_T95 l0 x7_1).f1) ((rd_T95 l0 x7_1).f0.f1) (wrap64 (x7_1 + 1))) else (spec_l3Lead.l0 k1 l0 a1 x5_1 x6_1 (wrap64 (x7_1 + 1)))) else (spec_l3Lead.l0 k1 l0 a1 x5_1 x6_1 (wrap64 (x7_1 + 1))))) = some r := H
    replace H := bd H
    obtain ⟨t204, A6, H⟩ := H
    replace H : (if t204 = true then (if ((rd_T95 l0 x7_1).f0.f1) > x6_1 then (spec_l3Lead.l0 k1 l0 a1 ((rd_T95 l0 x7_1).f1) ((rd_T95 l0 x7_1).f0.f1) (wrap64 (x7_1 + 1))) else (spec_l3Lead.l0 k1 l0 a1 x5_1 x6_1 (wrap64 (x7_1 + 1)))) else (spec_l3Lead.l0 k1 l0 a1 x5_1 x6_1 (wrap64 (x7_1 + 1)))) = some r := H
    by_cases c7 : t204 = true
    ·subst c7
     have H1 : (if ((rd_T95 l0 x7_1).f0.f1) > x6_1 then (spec_l3Lead.l0 k1 l0 a1 ((rd_T95 l0 x7_1).f1) ((rd_T95 l0 x7_1).f0.f1) (wrap64 (x7_1 + 1))) else (spec_l3Lead.l0 k1 l0 a1 x5_1 x6_1 (wrap64 (x7_1 + 1)))) = some r := by rw [if_pos rfl] at H; exact H
     clear H
     have H := H1
     clear H1
     replace H := ic H
     rcases H with ⟨c8b0, H⟩ | ⟨c8b0, H⟩
     ·have H' := Aside0.mk H
      clear H
      obtain ⟨⟨ad201, e201, hx201_0, hx201_1, hx201_2⟩, p201, q201⟩ := wi (at_T95 HR0.out x7_1)
      cases e201
      replace hx201_0 := (HB.out.cell (World.block_lt_of_cell? w _ hx201_0)).trans hx201_0
      replace hx201_1 := (HB.out.cell (World.block_lt_of_cell? w _ hx201_1)).trans hx201_1
      replace hx201_2 := (HB.out.cell (World.block_lt_of_cell? w _ hx201_2)).trans hx201_2
      try go_wp2_with (first | (refine be 8 #[.int .i64 0, .int .i64 0] 40 ?_; intro gb202 hg w9 hbox hb; have BK202 := Aside0.mk hbox; have GW202 := Aside0.mk (zz1 : w.heap.size ≤ gb202); have GE202 := Aside0.mk (zz1 : w.heap.size ≤ gb202); replace HB := Aside0.mk (below_step zz2 hb); clear hb hbox hg; have hcz10_0 : w9.cell? ⟨gb202, 0, none⟩ = some (.int .i64 0) := (blk_cell BK202.out 0).trans rfl; have hcz10_1 : w9.cell? ⟨gb202, 1, none⟩ = some (.int .i64 0) := (blk_cell BK202.out 1).trans rfl; have hfz10_0 := blk_frozen BK202.out 0; have hfz10_1 := blk_frozen BK202.out 1))
      have n0_ : Aside0 (((w9.setCell ⟨gb202, 0, none⟩ (.int .i64 ((rd_T95 l0 x7_1).f0.f0))).setCell ⟨gb202, 1, none⟩ (.int .i64 ((rd_T95 l0 x7_1).f0.f1))).heap[gb202]? = some (.cells #[.int .i64 ((rd_T95 l0 x7_1).f0.f0), .int .i64 ((rd_T95 l0 x7_1).f0.f1)] 40 (0, 0))) := ⟨by (with_reducible repeat (first | refine blk_drewN ?_ _ | refine blk_drew ?_ | refine blk_alloc ?_ _)); refine blk_put (cs := #[.int .i64 ((rd_T95 l0 x7_1).f0.f0), .int .i64 0]) ?_ 1 _ rfl; (with_reducible repeat (first | refine blk_drewN ?_ _ | refine blk_drew ?_ | refine blk_alloc ?_ _)); refine blk_put (cs := #[.int .i64 0, .int .i64 0]) ?_ 0 _ rfl; (with_reducible repeat (first | refine blk_drewN ?_ _ | refine blk_drew ?_ | refine blk_alloc ?_ _)); exact BK202.out⟩
      have n1_ : Aside0 (Below w.heap.size w ((w9.setCell ⟨gb202, 0, none⟩ (.int .i64 ((rd_T95 l0 x7_1).f0.f0))).setCell ⟨gb202, 1, none⟩ (.int .i64 ((rd_T95 l0 x7_1).f0.f1)))) := ⟨zz4 GE202⟩
      (try clear BK202)
      (try clear HB)
      generalize ((w9.setCell ⟨gb202, 0, none⟩ (.int .i64 ((rd_T95 l0 x7_1).f0.f0))).setCell ⟨gb202, 1, none⟩ (.int .i64 ((rd_T95 l0 x7_1).f0.f1))) = w11 at n0_ n1_ ⊢
      have BK202 := n0_
      have HB := n1_
      clear n0_ n1_
      replace BK202 := Aside0.mk (blk_drew BK202.out)
      replace HB := Aside0.mk (below_drew1 HB.out)
      refine start_ (n := 12) (S := fun w' => w'.cell? ⟨gb202, 0, none⟩ = some (.int .i64 ((rd_T95 l0 x7_1).f0.f0)) ∧ w'.cell? ⟨gb202, 1, none⟩ = some (.int .i64 ((rd_T95 l0 x7_1).f0.f1))) (ds := []) (bm 12 0) (by kernel_rfl) rfl rfl ⟨(blk_cell BK202.out 0).trans rfl, (blk_cell BK202.out 1).trans rfl⟩ (fun hHeld => ?_); refine with_tabW spec_l3Lead.tab7 spec_l3Lead.bits7 (fun HT_ HW_ => ?_)
      generalize w11.drew = w12 at BK202 HB hHeld ⊢
      refine pu 0 20 (bm 12 1) ?_
      refine pu 1 21 (bm 12 3) ?_
      refine tk 2 22 (bm 12 7) ?_
      refine tk 3 23 (bm 12 15) ?_
      refine on 4 (some 24) (bm 12 31) (fun K hK => ?_)
      refine gs Try.func59 #[.agg #[.int .i64 ((rd_T95 l0 x7_1).f0.f0), .int .i64 ((rd_T95 l0 x7_1).f0.f1)]] ?_
      with_reducible refine (spec_l1Last.calls k1 ((rd_T95 l0 x7_1).f0.f0) ((rd_T95 l0 x7_1).f0.f1) t203 _ A5.out).mono ?_
      rintro e w13 ⟨rfl, hb⟩
      refine ⟨_, rfl, ?_⟩
      replace BK202 := Aside0.mk (blk_below (g := gb202) (o := .cells #[.int .i64 ((rd_T95 l0 x7_1).f0.f0), .int .i64 ((rd_T95 l0 x7_1).f0.f1)] 40 (0, 0)) (zz5 BK202) hb)
      replace HB := Aside0.mk (below_step (zz4 GE202) hb)
      (try clear hb)
      (try clear hb2)
      (try clear hk)
      (try clear hi)
      refine hK.out _ _ ⟨(blk_cell BK202.out 0).trans rfl, (blk_cell BK202.out 1).trans rfl⟩ (fun hHeld => ?_)
      clear hK K
      refine nm 24 ?_
      refine on 5 (some 25) (bm 12 63) (fun K hK => ?_)
      refine gs Try.func58 #[.int .i64 a1, .int .i64 ((rd_T95 l0 x7_1).f0.f0), .int .i64 t203] ?_
      with_reducible refine (spec_l1In.calls a1 ((rd_T95 l0 x7_1).f0.f0) t203 true _ A6.out).mono ?_
      rintro e w' ⟨rfl, ⟨nd, rfl⟩⟩
      refine ⟨_, rfl, ?_⟩
      refine hK.out _ _ ⟨(blk_cell BK202.out 0).trans rfl, (blk_cell BK202.out 1).trans rfl⟩ (fun hHeld => ?_)
      clear hK K
      refine nm 25 ?_
      refine pu 6 26 (bm 12 127) ?_
      refine pu 7 27 (bm 12 255) ?_
      refine pu 9 29 (bm 12 767) ?_
      refine tk 8 28 (bm 12 1023) ?_
      refine pu 10 30 (bm 12 2047) ?_
      refine pu 11 31 (bm 12 4095) ?_
      refine done_ (done_of HT_.out (by kernel_rfl)) ?_
      have hcz14_0 : w13.cell? ⟨gb202, 0, none⟩ = some (.int .i64 ((rd_T95 l0 x7_1).f0.f0)) := (blk_cell BK202.out 0).trans rfl
      have hcz14_1 : w13.cell? ⟨gb202, 1, none⟩ = some (.int .i64 ((rd_T95 l0 x7_1).f0.f1)) := (blk_cell BK202.out 1).trans rfl
      have hfz14_0 := blk_frozen BK202.out 0
      have hfz14_1 := blk_frozen BK202.out 1
      obtain ⟨⟨ad205, e205, hx205_0, hx205_1, hx205_2⟩, p205, q205⟩ := wi (at_T95 HR0.out x7_1)
      obtain rfl : ad201 = ad205 := (by injection e205)
      replace hx205_0 := (HB.out.cell (World.block_lt_of_cell? w _ hx205_0)).trans hx205_0
      replace hx205_1 := (HB.out.cell (World.block_lt_of_cell? w _ hx205_1)).trans hx205_1
      replace hx205_2 := (HB.out.cell (World.block_lt_of_cell? w _ hx205_2)).trans hx205_2
      try go_wp2
      go_roundg k1
      case measure => have := HK1.out; omega
      case rel => exact ⟨((rd_T95 l0 x7_1).f1), ((rd_T95 l0 x7_1).f0.f1), (wrap64 (x7_1 + 1)), zz8, zz8, zz8, H', ⟨zz9 HK1⟩, ⟨zz4 GE202⟩⟩
     ·have H' := Aside0.mk H
      clear H
      obtain ⟨⟨ad201, e201, hx201_0, hx201_1, hx201_2⟩, p201, q201⟩ := wi (at_T95 HR0.out x7_1)
      cases e201
      replace hx201_0 := (HB.out.cell (World.block_lt_of_cell? w _ hx201_0)).trans hx201_0
      replace hx201_1 := (HB.out.cell (World.block_lt_of_cell? w _ hx201_1)).trans hx201_1
      replace hx201_2 := (HB.out.cell (World.block_lt_of_cell? w _ hx201_2)).trans hx201_2
      try go_wp2_with (first | (refine be 8 #[.int .i64 0, .int .i64 0] 40 ?_; intro gb202 hg w15 hbox hb; have BK202 := Aside0.mk hbox; have GW202 := Aside0.mk (zz1 : w.heap.size ≤ gb202); have GE202 := Aside0.mk (zz1 : w.heap.size ≤ gb202); replace HB := Aside0.mk (below_step zz2 hb); clear hb hbox hg; have hcz16_0 : w15.cell? ⟨gb202, 0, none⟩ = some (.int .i64 0) := (blk_cell BK202.out 0).trans rfl; have hcz16_1 : w15.cell? ⟨gb202, 1, none⟩ = some (.int .i64 0) := (blk_cell BK202.out 1).trans rfl; have hfz16_0 := blk_frozen BK202.out 0; have hfz16_1 := blk_frozen BK202.out 1))
      have n0_ : Aside0 (((w15.setCell ⟨gb202, 0, none⟩ (.int .i64 ((rd_T95 l0 x7_1).f0.f0))).setCell ⟨gb202, 1, none⟩ (.int .i64 ((rd_T95 l0 x7_1).f0.f1))).heap[gb202]? = some (.cells #[.int .i64 ((rd_T95 l0 x7_1).f0.f0), .int .i64 ((rd_T95 l0 x7_1).f0.f1)] 40 (0, 0))) := ⟨by (with_reducible repeat (first | refine blk_drewN ?_ _ | refine blk_drew ?_ | refine blk_alloc ?_ _)); refine blk_put (cs := #[.int .i64 ((rd_T95 l0 x7_1).f0.f0), .int .i64 0]) ?_ 1 _ rfl; (with_reducible repeat (first | refine blk_drewN ?_ _ | refine blk_drew ?_ | refine blk_alloc ?_ _)); refine blk_put (cs := #[.int .i64 0, .int .i64 0]) ?_ 0 _ rfl; (with_reducible repeat (first | refine blk_drewN ?_ _ | refine blk_drew ?_ | refine blk_alloc ?_ _)); exact BK202.out⟩
      have n1_ : Aside0 (Below w.heap.size w ((w15.setCell ⟨gb202, 0, none⟩ (.int .i64 ((rd_T95 l0 x7_1).f0.f0))).setCell ⟨gb202, 1, none⟩ (.int .i64 ((rd_T95 l0 x7_1).f0.f1)))) := ⟨zz4 GE202⟩
      (try clear BK202)
      (try clear HB)
      generalize ((w15.setCell ⟨gb202, 0, none⟩ (.int .i64 ((rd_T95 l0 x7_1).f0.f0))).setCell ⟨gb202, 1, none⟩ (.int .i64 ((rd_T95 l0 x7_1).f0.f1))) = w17 at n0_ n1_ ⊢
      have BK202 := n0_
      have HB := n1_
      clear n0_ n1_
      replace BK202 := Aside0.mk (blk_drew BK202.out)
      replace HB := Aside0.mk (below_drew1 HB.out)
      refine start_ (n := 12) (S := fun w' => w'.cell? ⟨gb202, 0, none⟩ = some (.int .i64 ((rd_T95 l0 x7_1).f0.f0)) ∧ w'.cell? ⟨gb202, 1, none⟩ = some (.int .i64 ((rd_T95 l0 x7_1).f0.f1))) (ds := []) (bm 12 0) (by kernel_rfl) rfl rfl ⟨(blk_cell BK202.out 0).trans rfl, (blk_cell BK202.out 1).trans rfl⟩ (fun hHeld => ?_); refine with_tabW spec_l3Lead.tab7 spec_l3Lead.bits7 (fun HT_ HW_ => ?_)
      generalize w17.drew = w18 at BK202 HB hHeld ⊢
      refine pu 0 20 (bm 12 1) ?_
      refine pu 1 21 (bm 12 3) ?_
      refine tk 2 22 (bm 12 7) ?_
      refine tk 3 23 (bm 12 15) ?_
      refine on 4 (some 24) (bm 12 31) (fun K hK => ?_)
      refine gs Try.func59 #[.agg #[.int .i64 ((rd_T95 l0 x7_1).f0.f0), .int .i64 ((rd_T95 l0 x7_1).f0.f1)]] ?_
      with_reducible refine (spec_l1Last.calls k1 ((rd_T95 l0 x7_1).f0.f0) ((rd_T95 l0 x7_1).f0.f1) t203 _ A5.out).mono ?_
      rintro e w19 ⟨rfl, hb⟩
      refine ⟨_, rfl, ?_⟩
      replace BK202 := Aside0.mk (blk_below (g := gb202) (o := .cells #[.int .i64 ((rd_T95 l0 x7_1).f0.f0), .int .i64 ((rd_T95 l0 x7_1).f0.f1)] 40 (0, 0)) (zz5 BK202) hb)
      replace HB := Aside0.mk (below_step (zz4 GE202) hb)
      (try clear hb)
      (try clear hb2)
      (try clear hk)
      (try clear hi)
      refine hK.out _ _ ⟨(blk_cell BK202.out 0).trans rfl, (blk_cell BK202.out 1).trans rfl⟩ (fun hHeld => ?_)
      clear hK K
      refine nm 24 ?_
      refine on 5 (some 25) (bm 12 63) (fun K hK => ?_)
      refine gs Try.func58 #[.int .i64 a1, .int .i64 ((rd_T95 l0 x7_1).f0.f0), .int .i64 t203] ?_
      with_reducible refine (spec_l1In.calls a1 ((rd_T95 l0 x7_1).f0.f0) t203 true _ A6.out).mono ?_
      rintro e w' ⟨rfl, ⟨nd, rfl⟩⟩
      refine ⟨_, rfl, ?_⟩
      refine hK.out _ _ ⟨(blk_cell BK202.out 0).trans rfl, (blk_cell BK202.out 1).trans rfl⟩ (fun hHeld => ?_)
      clear hK K
      refine nm 25 ?_
      refine pu 6 26 (bm 12 127) ?_
      refine pu 7 27 (bm 12 255) ?_
      refine pu 9 29 (bm 12 767) ?_
      refine tk 8 28 (bm 12 1023) ?_
      refine pu 10 30 (bm 12 2047) ?_
      refine pu 11 31 (bm 12 4095) ?_
      refine done_ (done_of HT_.out (by kernel_rfl)) ?_
      try go_wp2
      go_roundg k1
      case measure => have := HK1.out; omega
      case rel => exact ⟨(x5_1), (x6_1), (wrap64 (x7_1 + 1)), zz8, zz8, zz8, H', ⟨zz9 HK1⟩, ⟨zz4 GE202⟩⟩
    ·replace c7 := Bool.eq_false_iff.mpr c7
     subst c7
     have H1 : (spec_l3Lead.l0 k1 l0 a1 x5_1 x6_1 (wrap64 (x7_1 + 1))) = some r := by rw [if_neg (show ¬ (false = true) by decide)] at H; exact H
     clear H
     have H := H1
     clear H1
     have H' := Aside0.mk H
     clear H
     obtain ⟨⟨ad201, e201, hx201_0, hx201_1, hx201_2⟩, p201, q201⟩ := wi (at_T95 HR0.out x7_1)
     cases e201
     replace hx201_0 := (HB.out.cell (World.block_lt_of_cell? w _ hx201_0)).trans hx201_0
     replace hx201_1 := (HB.out.cell (World.block_lt_of_cell? w _ hx201_1)).trans hx201_1
     replace hx201_2 := (HB.out.cell (World.block_lt_of_cell? w _ hx201_2)).trans hx201_2
     try go_wp2_with (first | (refine be 8 #[.int .i64 0, .int .i64 0] 40 ?_; intro gb202 hg w20 hbox hb; have BK202 := Aside0.mk hbox; have GW202 := Aside0.mk (zz1 : w.heap.size ≤ gb202); have GE202 := Aside0.mk (zz1 : w.heap.size ≤ gb202); replace HB := Aside0.mk (below_step zz2 hb); clear hb hbox hg; have hcz21_0 : w20.cell? ⟨gb202, 0, none⟩ = some (.int .i64 0) := (blk_cell BK202.out 0).trans rfl; have hcz21_1 : w20.cell? ⟨gb202, 1, none⟩ = some (.int .i64 0) := (blk_cell BK202.out 1).trans rfl; have hfz21_0 := blk_frozen BK202.out 0; have hfz21_1 := blk_frozen BK202.out 1))
     have n0_ : Aside0 (((w20.setCell ⟨gb202, 0, none⟩ (.int .i64 ((rd_T95 l0 x7_1).f0.f0))).setCell ⟨gb202, 1, none⟩ (.int .i64 ((rd_T95 l0 x7_1).f0.f1))).heap[gb202]? = some (.cells #[.int .i64 ((rd_T95 l0 x7_1).f0.f0), .int .i64 ((rd_T95 l0 x7_1).f0.f1)] 40 (0, 0))) := ⟨by (with_reducible repeat (first | refine blk_drewN ?_ _ | refine blk_drew ?_ | refine blk_alloc ?_ _)); refine blk_put (cs := #[.int .i64 ((rd_T95 l0 x7_1).f0.f0), .int .i64 0]) ?_ 1 _ rfl; (with_reducible repeat (first | refine blk_drewN ?_ _ | refine blk_drew ?_ | refine blk_alloc ?_ _)); refine blk_put (cs := #[.int .i64 0, .int .i64 0]) ?_ 0 _ rfl; (with_reducible repeat (first | refine blk_drewN ?_ _ | refine blk_drew ?_ | refine blk_alloc ?_ _)); exact BK202.out⟩
     have n1_ : Aside0 (Below w.heap.size w ((w20.setCell ⟨gb202, 0, none⟩ (.int .i64 ((rd_T95 l0 x7_1).f0.f0))).setCell ⟨gb202, 1, none⟩ (.int .i64 ((rd_T95 l0 x7_1).f0.f1)))) := ⟨zz4 GE202⟩
     (try clear BK202)
     (try clear HB)
     generalize ((w20.setCell ⟨gb202, 0, none⟩ (.int .i64 ((rd_T95 l0 x7_1).f0.f0))).setCell ⟨gb202, 1, none⟩ (.int .i64 ((rd_T95 l0 x7_1).f0.f1))) = w22 at n0_ n1_ ⊢
     have BK202 := n0_
     have HB := n1_
     clear n0_ n1_
     replace BK202 := Aside0.mk (blk_drew BK202.out)
     replace HB := Aside0.mk (below_drew1 HB.out)
     refine start_ (n := 12) (S := fun w' => w'.cell? ⟨gb202, 0, none⟩ = some (.int .i64 ((rd_T95 l0 x7_1).f0.f0)) ∧ w'.cell? ⟨gb202, 1, none⟩ = some (.int .i64 ((rd_T95 l0 x7_1).f0.f1))) (ds := []) (bm 12 0) (by kernel_rfl) rfl rfl ⟨(blk_cell BK202.out 0).trans rfl, (blk_cell BK202.out 1).trans rfl⟩ (fun hHeld => ?_); refine with_tabW spec_l3Lead.tab7 spec_l3Lead.bits7 (fun HT_ HW_ => ?_)
     generalize w22.drew = w23 at BK202 HB hHeld ⊢
     refine pu 0 20 (bm 12 1) ?_
     refine pu 1 21 (bm 12 3) ?_
     refine tk 2 22 (bm 12 7) ?_
     refine tk 3 23 (bm 12 15) ?_
     refine on 4 (some 24) (bm 12 31) (fun K hK => ?_)
     refine gs Try.func59 #[.agg #[.int .i64 ((rd_T95 l0 x7_1).f0.f0), .int .i64 ((rd_T95 l0 x7_1).f0.f1)]] ?_
     with_reducible refine (spec_l1Last.calls k1 ((rd_T95 l0 x7_1).f0.f0) ((rd_T95 l0 x7_1).f0.f1) t203 _ A5.out).mono ?_
     rintro e w24 ⟨rfl, hb⟩
     refine ⟨_, rfl, ?_⟩
     replace BK202 := Aside0.mk (blk_below (g := gb202) (o := .cells #[.int .i64 ((rd_T95 l0 x7_1).f0.f0), .int .i64 ((rd_T95 l0 x7_1).f0.f1)] 40 (0, 0)) (zz5 BK202) hb)
     replace HB := Aside0.mk (below_step (zz4 GE202) hb)
     (try clear hb)
     (try clear hb2)
     (try clear hk)
     (try clear hi)
     refine hK.out _ _ ⟨(blk_cell BK202.out 0).trans rfl, (blk_cell BK202.out 1).trans rfl⟩ (fun hHeld => ?_)
     clear hK K
     refine nm 24 ?_
     refine on 5 (some 25) (bm 12 63) (fun K hK => ?_)
     refine gs Try.func58 #[.int .i64 a1, .int .i64 ((rd_T95 l0 x7_1).f0.f0), .int .i64 t203] ?_
     with_reducible refine (spec_l1In.calls a1 ((rd_T95 l0 x7_1).f0.f0) t203 false _ A6.out).mono ?_
     rintro e w' ⟨rfl, ⟨nd, rfl⟩⟩
     refine ⟨_, rfl, ?_⟩
     refine hK.out _ _ ⟨(blk_cell BK202.out 0).trans rfl, (blk_cell BK202.out 1).trans rfl⟩ (fun hHeld => ?_)
     clear hK K
     refine nm 25 ?_
     refine pu 6 26 (bm 12 127) ?_
     refine po 7 27 (bm 12 255) ?_
     refine po 8 28 (bm 12 511) ?_
     refine po 9 29 (bm 12 1023) ?_
     refine po 10 30 (bm 12 2047) ?_
     refine pu 11 31 (bm 12 4095) ?_
     refine done_ (done_of HT_.out (by kernel_rfl)) ?_
     try go_wp2
     go_roundg k1
     case measure => have := HK1.out; omega
     case rel => exact ⟨(x5_1), (x6_1), (wrap64 (x7_1 + 1)), zz8, zz8, zz8, H', ⟨zz9 HK1⟩, ⟨zz4 GE202⟩⟩
   ·obtain rfl := Option.some.inj H
    go_wp2
    go_ret
    exact ⟨zz6, zz2⟩

end Go.Proofs.Ythkjkmgbdahggaa.PW
