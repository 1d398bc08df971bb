/- A text printed by this session's wip/myprint.py over the kit's print: contracts of functions of the given program, each at what its Lean function says. -/
import Derived.Test.YthkjkmgbdahggaaPWx0
import Derived.Test.YthkjkmgbdahggaaPWx1
import Derived.Test.YthkjkmgbdahggaaPWx2
import Derived.Test.YthkjkmgbdahggaaPWx3
import Derived.Test.YthkjkmgbdahggaaPWx6
namespace Go.Proofs.Ythkjkmgbdahggaa.PW
open Go.RowKit Go.Proofs.YthkjkmgbdahggaaW.PrintWords Go.Proofs.YthkjkmgbdahggaaW.PrintLast Go.Proofs.YthkjkmgbdahggaaW.PrintMore Go.Proofs.Ythkjkmgbdahggaa.Sq
attribute [local go_sem] max2_int min2_int max_two min_two max_three min_three max_four min_four   -- for this text's walks alone
set_option linter.unusedVariables false
set_option linter.unusedSimpArgs false

/-! ### spec_l3Spans: function 80 -/
def spec_l3Spans.l0 : Nat → List (S95) → Int → List Int → List (S72) → Int → Option ((List (S72)))
 | 0, _, _, _, _, _ => none
 | k + 1, x0, x1, x5, x6, x7 => if x7 < (x5.length : Int) then (if 0 ≤ x7 then ((spec_l3Lead.f k x0 (rd x5 x7)).bind fun t216 => (if t216 = x1 then (if (wrap64 (x7 + 1)) < (x5.length : Int) then (if 0 ≤ (wrap64 (x7 + 1)) then (if (wrap64 ((x6.length : Int) - 1)) ≥ 0 then (if 0 ≤ (wrap64 ((x6.length : Int) - 1)) then (if (wrap64 ((x6.length : Int) - 1)) < (x6.length : Int) then (if (wrap64 (((rd_T72 x6 (wrap64 ((x6.length : Int) - 1))).f1) + 1)) = (rd x5 x7) then (spec_l3Spans.l0 k x0 x1 x5 (x6.set ((wrap64 ((x6.length : Int) - 1)) : Int).toNat (⟨(rd_T72 x6 (wrap64 ((x6.length : Int) - 1))).f0, wrap64 ((rd x5 (wrap64 (x7 + 1))) - 1)⟩ : S72)) (wrap64 (x7 + 1))) else (if x6.length < 8796093022208 then (spec_l3Spans.l0 k x0 x1 x5 (x6 ++ [(⟨rd x5 x7, wrap64 ((rd x5 (wrap64 (x7 + 1))) - 1)⟩ : S72)]) (wrap64 (x7 + 1))) else (none))) else (none)) else (none)) else (if x6.length < 8796093022208 then (spec_l3Spans.l0 k x0 x1 x5 (x6 ++ [(⟨rd x5 x7, wrap64 ((rd x5 (wrap64 (x7 + 1))) - 1)⟩ : S72)]) (wrap64 (x7 + 1))) else (none))) else (none)) else (if (wrap64 ((x6.length : Int) - 1)) ≥ 0 then (if 0 ≤ (wrap64 ((x6.length : Int) - 1)) then (if (wrap64 ((x6.length : Int) - 1)) < (x6.length : Int) then (if (wrap64 (((rd_T72 x6 (wrap64 ((x6.length : Int) - 1))).f1) + 1)) = (rd x5 x7) then (spec_l3Spans.l0 k x0 x1 x5 (x6.set ((wrap64 ((x6.length : Int) - 1)) : Int).toNat (⟨(rd_T72 x6 (wrap64 ((x6.length : Int) - 1))).f0, 4294967295⟩ : S72)) (wrap64 (x7 + 1))) else (if x6.length < 8796093022208 then (spec_l3Spans.l0 k x0 x1 x5 (x6 ++ [(⟨rd x5 x7, 4294967295⟩ : S72)]) (wrap64 (x7 + 1))) else (none))) else (none)) else (none)) else (if x6.length < 8796093022208 then (spec_l3Spans.l0 k x0 x1 x5 (x6 ++ [(⟨rd x5 x7, 4294967295⟩ : S72)]) (wrap64 (x7 + 1))) else (none)))) else (spec_l3Spans.l0 k x0 x1 x5 x6 (wrap64 (x7 + 1))))) else (none)) else (some x6)
def spec_l3Spans.f (k : Nat) (l0 : List (S95)) (a1 : Int) : Option ((List (S72))) := (spec_l3Edges.f k l0 (([0] : List Int))).bind fun t209 => (spec_l3Spans.l0 k l0 a1 t209 (([] : List (S72))) 0)
theorem spec_l3Spans.mono_l : ∀ k, (∀ y0 y1 y2 y3 y4, LeO (spec_l3Spans.l0 k y0 y1 y2 y3 y4) (spec_l3Spans.l0 (k + 1) y0 y1 y2 y3 y4))
 | 0 => fun _ _ _ _ _ r h => by simp [spec_l3Spans.l0] at h
 | k + 1 => by
  have ih0 := spec_l3Spans.mono_l k
  ·intro y0 y1 y2 y3 y4
   unfold spec_l3Spans.l0
   repeat' first
   | (with_reducible exact ih0 _ _ _ _ _)
   | (with_reducible exact spec_l3Edges.mono _ _ _)
   | (with_reducible exact spec_l3Lead.mono _ _ _)
   | (with_reducible exact LeO.refl _)
   | (with_reducible exact LeO.none _)
   | (with_reducible refine LeO.ite ?_ ?_)
   | (with_reducible refine LeO.bind ?_ (fun _ => ?_))
   | exact ih0 _ _ _ _ _
   | exact spec_l3Edges.mono _ _ _
   | exact spec_l3Lead.mono _ _ _
   | exact LeO.none _
   | refine LeO.ite ?_ ?_
   | refine LeO.bind ?_ (fun _ => ?_)
theorem spec_l3Spans.mono : ∀ a0 a1 k, LeO (spec_l3Spans.f k a0 a1) (spec_l3Spans.f (k + 1) a0 a1) := by
 intro a0 a1 k
 have ih0 := spec_l3Spans.mono_l k
 unfold spec_l3Spans.f
 repeat' first
   | (with_reducible exact ih0 _ _ _ _ _)
   | (with_reducible exact spec_l3Edges.mono _ _ _)
   | (with_reducible exact spec_l3Lead.mono _ _ _)
   | (with_reducible exact LeO.refl _)
   | (with_reducible exact LeO.none _)
   | (with_reducible refine LeO.ite ?_ ?_)
   | (with_reducible refine LeO.bind ?_ (fun _ => ?_))
   | exact ih0 _ _ _ _ _
   | exact spec_l3Edges.mono _ _ _
   | exact spec_l3Lead.mono _ _ _
   | exact LeO.none _
   | refine LeO.ite ?_ ?_
   | refine LeO.bind ?_ (fun _ => ?_)
set_option maxHeartbeats 8000000 in
set_option maxRecDepth 100000 in
theorem spec_l3Spans.calls (k : Nat) (A0 : Option Addr) (c0 : Nat) (l0 : List (S95)) (a1 : Int) (r : List (S72)) (w : World) (hr0 : Kd.C k95 w A0 l0.length l0) (hc0 : l0.length ≤ c0) (h : spec_l3Spans.f k l0 a1 = some r) :
  Calls Try.prog 80 #[.slice A0 l0.length c0, .int .i64 a1] w fun e w' => ∃ v0_ : Value, e = .returned (v0_) ∧ Kd.R k72 72 w' w.heap.size (fun _ => True) v0_ r ∧ Below w.heap.size w w' := by
 have hu72 := Try.underlying72
 have HR0 := Aside0.mk hr0
 have HC0 := Aside0.mk hc0
 clear hr0 hc0
 have HB := Aside0.mk (Below.refl w.heap.size w)
 have H : ((spec_l3Edges.f k l0 (([0] : List Int))).bind fun t209 => (spec_l3Spans.l0 k l0 a1 t209 (([] : List (S72))) 0)) = some r := h
 clear h
 obtain ⟨y206, hy206⟩ : ∃ y_ : List Int, y_ = (([0] : List Int)) := ⟨_, rfl⟩
 replace H : ((spec_l3Edges.f k l0 y206).bind fun t209 => (spec_l3Spans.l0 k l0 a1 t209 (([] : List (S72))) 0)) = some r := by first | (rw [hy206]; with_reducible exact H) | (have H2_ := (Option.bind_some _ _).symm.trans H; rw [hy206]; with_reducible exact H2_) | (have H2_ := (Option.bind_some _ _).symm.trans H; with_reducible exact H2_) | with_reducible exact H | (rw [hy206]; exact H) | exact H
 have Ny206 := Aside0.mk hy206
 clear hy206
 replace H := bd H
 obtain ⟨t209, A3, H⟩ := H
 replace H : (spec_l3Spans.l0 k l0 a1 t209 (([] : List (S72))) 0) = some r := H
 obtain ⟨y212, hy212⟩ : ∃ y_ : List (S72), y_ = (([] : List (S72))) := ⟨_, rfl⟩
 replace H : (spec_l3Spans.l0 k l0 a1 t209 y212 0) = some r := by first | (rw [hy212]; with_reducible exact H) | (have H2_ := (Option.bind_some _ _).symm.trans H; rw [hy212]; with_reducible exact H2_) | (have H2_ := (Option.bind_some _ _).symm.trans H; with_reducible exact H2_) | with_reducible exact H | (rw [hy212]; exact H) | exact H
 have Ny212 := Aside0.mk hy212
 clear hy212
 have H' := Aside0.mk H
 clear H
 go_enter Try.func80, Try.ntmps80
 go_wp2_with (first | (refine gt 11 ?_; refine rl (Kd.int .i64) 3 11 ([0] : List Int) [.int .i64 0] ?hp ?_; (case hp => exact zz24); intro v207 w4 ho5 hb hg_ hnew_; clear hg_ hnew_; (first | rw [← Ny206.out] at ho5 | (simp only [Int.reduceToNat] at ho5; rw [← Ny206.out] at ho5)); have HO208 := Aside0.mk (Kd.R_lower ho5 (below_size zz2)); replace HB := Aside0.mk (below_step zz2 hb); clear hb ho5; obtain ⟨Ao6, co6, eo6⟩ := Kd.R_slice HO208.out; subst eo6) | (go_at_call 103; (with_reducible refine (spec_l3Edges.calls k _ _ l0 (fun k_ => some k_ = (.slice Ao6 y206.length co6 : Value).ownBlock) (.slice Ao6 y206.length co6) y206 t209 w _ ?side1 ?side2 ?side3 ?side4 A3.out).mono ?_); (case side1 => exact zz2); (case side2 => exact zz37 HR0 HO208); (case side3 => exact HC0.out); (case side4 => exact zz36 HO208); rintro e w7 ⟨v210, rfl, ho0, hb, hkp⟩; have HO211 := Aside0.mk (Kd.R_mono (ok' := fun k_ => True) ho0 (fun k_ hk_ => trivial)); replace HB := Aside0.mk hb; clear HO208 hb hkp ho0) | (refine gt 13 ?_; refine rl k72 72 13 ([] : List (S72)) [] ?hp ?_; (case hp => exact zz12); intro v213 w8 ho9 hb hg_ hnew_; clear hg_ hnew_; (first | rw [← Ny212.out] at ho9 | (simp only [Int.reduceToNat] at ho9; rw [← Ny212.out] at ho9)); replace HO211 := Aside0.mk (Kd.R_below (zz13 HO211) hb); have HO214 := Aside0.mk (Kd.R_lower ho9 (below_size zz2)); replace HB := Aside0.mk (below_step zz2 hb); clear hb ho9))
 repeat (go_quiet (first | (refine gt 11 ?_; refine rl (Kd.int .i64) 3 11 ([0] : List Int) [.int .i64 0] ?hp ?_; (case hp => exact zz24); intro v207 w4 ho5 hb hg_ hnew_; clear hg_ hnew_; (first | rw [← Ny206.out] at ho5 | (simp only [Int.reduceToNat] at ho5; rw [← Ny206.out] at ho5)); have HO208 := Aside0.mk (Kd.R_lower ho5 (below_size zz2)); replace HB := Aside0.mk (below_step zz2 hb); clear hb ho5; obtain ⟨Ao6, co6, eo6⟩ := Kd.R_slice HO208.out; subst eo6) | (go_at_call 103; (with_reducible refine (spec_l3Edges.calls k _ _ l0 (fun k_ => some k_ = (.slice Ao6 y206.length co6 : Value).ownBlock) (.slice Ao6 y206.length co6) y206 t209 w _ ?side1 ?side2 ?side3 ?side4 A3.out).mono ?_); (case side1 => exact zz2); (case side2 => exact zz37 HR0 HO208); (case side3 => exact HC0.out); (case side4 => exact zz36 HO208); rintro e w7 ⟨v210, rfl, ho0, hb, hkp⟩; have HO211 := Aside0.mk (Kd.R_mono (ok' := fun k_ => True) ho0 (fun k_ hk_ => trivial)); replace HB := Aside0.mk hb; clear HO208 hb hkp ho0) | (refine gt 13 ?_; refine rl k72 72 13 ([] : List (S72)) [] ?hp ?_; (case hp => exact zz12); intro v213 w8 ho9 hb hg_ hnew_; clear hg_ hnew_; (first | rw [← Ny212.out] at ho9 | (simp only [Int.reduceToNat] at ho9; rw [← Ny212.out] at ho9)); replace HO211 := Aside0.mk (Kd.R_below (zz13 HO211) hb); have HO214 := Aside0.mk (Kd.R_lower ho9 (below_size zz2)); replace HB := Aside0.mk (below_step zz2 hb); clear hb ho9)); try go_wp2_with (first | (refine gt 11 ?_; refine rl (Kd.int .i64) 3 11 ([0] : List Int) [.int .i64 0] ?hp ?_; (case hp => exact zz24); intro v207 w4 ho5 hb hg_ hnew_; clear hg_ hnew_; (first | rw [← Ny206.out] at ho5 | (simp only [Int.reduceToNat] at ho5; rw [← Ny206.out] at ho5)); have HO208 := Aside0.mk (Kd.R_lower ho5 (below_size zz2)); replace HB := Aside0.mk (below_step zz2 hb); clear hb ho5; obtain ⟨Ao6, co6, eo6⟩ := Kd.R_slice HO208.out; subst eo6) | (go_at_call 103; (with_reducible refine (spec_l3Edges.calls k _ _ l0 (fun k_ => some k_ = (.slice Ao6 y206.length co6 : Value).ownBlock) (.slice Ao6 y206.length co6) y206 t209 w _ ?side1 ?side2 ?side3 ?side4 A3.out).mono ?_); (case side1 => exact zz2); (case side2 => exact zz37 HR0 HO208); (case side3 => exact HC0.out); (case side4 => exact zz36 HO208); rintro e w7 ⟨v210, rfl, ho0, hb, hkp⟩; have HO211 := Aside0.mk (Kd.R_mono (ok' := fun k_ => True) ho0 (fun k_ hk_ => trivial)); replace HB := Aside0.mk hb; clear HO208 hb hkp ho0) | (refine gt 13 ?_; refine rl k72 72 13 ([] : List (S72)) [] ?hp ?_; (case hp => exact zz12); intro v213 w8 ho9 hb hg_ hnew_; clear hg_ hnew_; (first | rw [← Ny212.out] at ho9 | (simp only [Int.reduceToNat] at ho9; rw [← Ny212.out] at ho9)); replace HO211 := Aside0.mk (Kd.R_below (zz13 HO211) hb); have HO214 := Aside0.mk (Kd.R_lower ho9 (below_size zz2)); replace HB := Aside0.mk (below_step zz2 hb); clear hb ho9)))
 go_loopg [6, 7] k (fun kq v6 v7 w' => ∃ (x6_1 : List (S72)) (x7_1 : Int), v7 = .int .i64 x7_1 ∧ Aside0 (spec_l3Spans.l0 kq l0 a1 t209 x6_1 x7_1 = some r) ∧ Aside0 (kq ≤ k) ∧ Aside0 (Kd.R (Kd.int .i64) 3 w' w.heap.size (fun _ => True) v210 t209) ∧ Aside0 (Kd.R k72 72 w' w.heap.size (fun _ => True) v6 x6_1) ∧ Aside0 (Below w.heap.size w w'))
 case atStart => exact ⟨(y212), (0), zz8, H', ⟨Nat.le_refl _⟩, ⟨zz13 HO211⟩, ⟨zz13 HO214⟩, ⟨zz2⟩⟩
 case round =>
  clear H'
  try clear p2
  try clear c8
  obtain ⟨x6_1, x7_1, rfl, HA, HK1, HO_5, HO_6, HB⟩ := hrel
  cases gk with
  | zero => exact absurd HA.out (by simp [spec_l3Spans.l0])
  | succ k1 =>
   have H := HA.out
   clear HA
   simp only [spec_l3Spans.l0] at H
   replace H := ic H
   rcases H with ⟨c10b0, H⟩ | ⟨c10b0, H⟩
   ·replace H := gd H
    obtain ⟨c11b0, H⟩ := H
    replace H := bd H
    obtain ⟨t216, A12, H⟩ := H
    replace H : (if t216 = a1 then (if (wrap64 (x7_1 + 1)) < (t209.length : Int) then (if 0 ≤ (wrap64 (x7_1 + 1)) then (if (wrap64 ((x6_1.length : Int) - 1)) ≥ 0 then (if 0 ≤ (wrap64 ((x6_1.length : Int) - 1)) then (if (wrap64 ((x6_1.length : Int) - 1)) < (x6_1.length : Int) then (if (wrap64 (((rd_T72 x6_1 (wrap64 ((x6_1.length : Int) - 1))).f1) + 1)) = (rd t209 x7_1) then (spec_l3Spans.l0 k1 l0 a1 t209 (x6_1.set ((wrap64 ((x6_1.length : Int) - 1)) : Int).toNat (⟨(rd_T72 x6_1 (wrap64 ((x6_1.length : Int) - 1))).f0, wrap64 ((rd t209 (wrap64 (x7_1 + 1))) - 1)⟩ : S72)) (wrap64 (x7_1 + 1))) else (if x6_1.length < 8796093022208 then (spec_l3Spans.l0 k1 l0 a1 t209 (x6_1 ++ [(⟨rd t209 x7_1, wrap64 ((rd t209 (wrap64 (x7_1 + 1))) - 1)⟩ : S72)]) (wrap64 (x7_1 + 1))) else (none))) else (none)) else (none)) else (if x6_1.length < 8796093022208 then (spec_l3Spans.l0 k1 l0 a1 t209 (x6_1 ++ [(⟨rd t209 x7_1, wrap64 ((rd t209 (wrap64 (x7_1 + 1))) - 1)⟩ : S72)]) (wrap64 (x7_1 + 1))) else (none))) else (none)) else (if (wrap64 ((x6_1.length : Int) - 1)) ≥ 0 then (if 0 ≤ (wrap64 ((x6_1.length : Int) - 1)) then (if (wrap64 ((x6_1.length : Int) - 1)) < (x6_1.length : Int) then (if (wrap64 (((rd_T72 x6_1 (wrap64 ((x6_1.length : Int) - 1))).f1) + 1)) = (rd t209 x7_1) then (spec_l3Spans.l0 k1 l0 a1 t209 (x6_1.set ((wrap64 ((x6_1.length : Int) - 1)) : Int).toNat (⟨(rd_T72 x6_1 (wrap64 ((x6_1.length : Int) - 1))).f0, 4294967295⟩ : S72)) (wrap64 (x7_1 + 1))) else (if x6_1.length < 8796093022208 then (spec_l3Spans.l0 k1 l0 a1 t209 (x6_1 ++ [(⟨rd t209 x7_1, 4294967295⟩ : S72)]) (wrap64 (x7_1 + 1))) else (none))) else (none)) else (none)) else (if x6_1.length < 8796093022208 then (spec_l3Spans.l0 k1 l0 a1 t209 (x6_1 ++ [(⟨rd t209 x7_1, 4294967295⟩ : S72)]) (wrap64 (x7_1 + 1))) else (none)))) else (spec_l3Spans.l0 k1 l0 a1 t209 x6_1 (wrap64 (x7_1 + 1)))) = some r := H
    by_cases c13 : t216 = a1
    ·rw [if_pos c13] at H
     have c13b0 : (t216 == a1) = true := beq_iff_eq.mpr c13
     have c13b1 : (t216 != a1) = false := bne_eq_false_iff_eq.mpr c13
     clear c13
     replace H := ic H
     rcases H with ⟨c14b0, H⟩ | ⟨c14b0, H⟩
     ·obtain ⟨ji15, hji15⟩ : ∃ j_ : Int, (wrap64 (x7_1 + 1)) = j_ := ⟨_, rfl⟩
      replace H : (if 0 ≤ (ji15) then (if (wrap64 ((x6_1.length : Int) - 1)) ≥ 0 then (if 0 ≤ (wrap64 ((x6_1.length : Int) - 1)) then (if (wrap64 ((x6_1.length : Int) - 1)) < (x6_1.length : Int) then (if (wrap64 (((rd_T72 x6_1 (wrap64 ((x6_1.length : Int) - 1))).f1) + 1)) = (rd t209 x7_1) then (spec_l3Spans.l0 k1 l0 a1 t209 (x6_1.set ((wrap64 ((x6_1.length : Int) - 1)) : Int).toNat (⟨(rd_T72 x6_1 (wrap64 ((x6_1.length : Int) - 1))).f0, wrap64 ((rd t209 (ji15)) - 1)⟩ : S72)) ji15) else (if x6_1.length < 8796093022208 then (spec_l3Spans.l0 k1 l0 a1 t209 (x6_1 ++ [(⟨rd t209 x7_1, wrap64 ((rd t209 (ji15)) - 1)⟩ : S72)]) ji15) else (none))) else (none)) else (none)) else (if x6_1.length < 8796093022208 then (spec_l3Spans.l0 k1 l0 a1 t209 (x6_1 ++ [(⟨rd t209 x7_1, wrap64 ((rd t209 (ji15)) - 1)⟩ : S72)]) ji15) else (none))) else (none)) = some r := by first | (rw [hji15] at H; exact H) | (simp only [hji15] at H ⊢; exact H)
      (try rw [hji15] at c14b0)
      (try rw [hji15] at A12)
      have hji15w : (IntKind.i64.wrap (x7_1 + 1)) = ji15 := (i64_w _).trans hji15
      replace H := gd H
      obtain ⟨c16b0, H⟩ := H
      replace H := ic H
      rcases H with ⟨c17b0, H⟩ | ⟨c17b0, H⟩
      ·obtain ⟨ji18, hji18⟩ : ∃ j_ : Int, (wrap64 ((x6_1.length : Int) - 1)) = j_ := ⟨_, rfl⟩
       replace H : (if 0 ≤ (ji18) then (if (ji18) < (x6_1.length : Int) then (if (wrap64 (((rd_T72 x6_1 (ji18)).f1) + 1)) = (rd t209 x7_1) then (spec_l3Spans.l0 k1 l0 a1 t209 (x6_1.set ((ji18) : Int).toNat (⟨(rd_T72 x6_1 (ji18)).f0, wrap64 ((rd t209 (ji15)) - 1)⟩ : S72)) ji15) else (if x6_1.length < 8796093022208 then (spec_l3Spans.l0 k1 l0 a1 t209 (x6_1 ++ [(⟨rd t209 x7_1, wrap64 ((rd t209 (ji15)) - 1)⟩ : S72)]) ji15) else (none))) else (none)) else (none)) = some r := by first | (rw [hji18] at H; exact H) | (simp only [hji18] at H ⊢; exact H)
       (try rw [hji18] at c17b0)
       (try rw [hji18] at A12)
       have hji18w : (IntKind.i64.wrap ((x6_1.length : Int) - 1)) = ji18 := (i64_w _).trans hji18
       replace H := gd H
       obtain ⟨c19b0, H⟩ := H
       replace H := gd H
       obtain ⟨c20b0, H⟩ := H
       by_cases c21 : (wrap64 (((rd_T72 x6_1 (ji18)).f1) + 1)) = (rd t209 x7_1)
       ·rw [if_pos c21] at H
        have c21b0 : ((wrap64 (((rd_T72 x6_1 (ji18)).f1) + 1)) == (rd t209 x7_1)) = true := beq_iff_eq.mpr c21
        have c21b1 : ((wrap64 (((rd_T72 x6_1 (ji18)).f1) + 1)) != (rd t209 x7_1)) = false := bne_eq_false_iff_eq.mpr c21
        clear c21
        obtain ⟨y220, hy220⟩ : ∃ y_ : List (S72), y_ = (x6_1.set ((ji18) : Int).toNat (⟨(rd_T72 x6_1 (ji18)).f0, wrap64 ((rd t209 (ji15)) - 1)⟩ : S72)) := ⟨_, rfl⟩
        replace H : (spec_l3Spans.l0 k1 l0 a1 t209 y220 ji15) = some r := by first | (rw [hy220]; with_reducible exact H) | (have H2_ := (Option.bind_some _ _).symm.trans H; rw [hy220]; with_reducible exact H2_) | (have H2_ := (Option.bind_some _ _).symm.trans H; with_reducible exact H2_) | with_reducible exact H | (rw [hy220]; exact H) | exact H
        have Ny220 := Aside0.mk hy220
        clear hy220
        have H' := Aside0.mk H
        clear H
        obtain ⟨Ao23, co23, eo23⟩ := Kd.R_slice HO_5.out
        subst eo23
        have p215 : 0 ≤ (x7_1 : Int) := da
        have q215 : x7_1 < (t209.length : Int) := da
        obtain ⟨ad215, e215, hx215_0⟩ := Kd.at_int (Kd.R_reads' HO_5.out).2.2 x7_1 p215 q215
        cases e215
        replace p215 := eq_true p215
        replace q215 := eq_true q215
        go_wp2_with (first | (go_at_call 104; (with_reducible refine (spec_l3Lead.calls k1 _ _ l0 (rd t209 x7_1) t216 _ ?side1 ?side2 A12.out).mono ?_); (case side1 => exact zz38 HR0); (case side2 => exact HC0.out); rintro e w24 ⟨rfl, hb⟩; replace HO_5 := Aside0.mk (Kd.R_below (zz13 HO_5) hb); replace HO_6 := Aside0.mk (Kd.R_below (zz13 HO_6) hb); replace HB := Aside0.mk (below_step zz2 hb); clear hb; have p217 : 0 ≤ ((ji15) : Int) := of_decide_eq_true zz19; have q217 : (ji15) < (t209.length : Int) := of_decide_eq_true zz19; obtain ⟨ad217, e217, hx217_0⟩ := Kd.at_int (Kd.R_reads' HO_5.out).2.2 (ji15) p217 q217; obtain rfl : ad215 = ad217 := (by injection e217); replace p217 := eq_true p217; replace q217 := eq_true q217; obtain ⟨Ao25, co25, eo25⟩ := Kd.R_slice HO_6.out; subst eo25; obtain ⟨⟨ad218, e218, hx218_0, hx218_1⟩, p218, q218⟩ := wi (at_T72 (Kd.R_reads' HO_6.out).2.2 (ji18)); cases e218; have p219 : 0 ≤ (x7_1 : Int) := of_decide_eq_true zz19; have q219 : x7_1 < (t209.length : Int) := of_decide_eq_true zz19; obtain ⟨ad219, e219, hx219_0⟩ := Kd.at_int (Kd.R_reads' HO_5.out).2.2 x7_1 p219 q219; obtain rfl : ad215 = ad219 := (by injection e219); replace p219 := eq_true p219; replace q219 := eq_true q219; have p22 : 0 ≤ ((ji18) : Int) := of_decide_eq_true zz19; have q22 : ((ji18) : Int) < ((x6_1.length : Int) : Int) := of_decide_eq_true zz19; obtain ⟨go22, co22, eo22, gb22, gl22, cl22, HG22⟩ := Kd.R_form HO_6.out (by omega); (first | cases eo22 | (injection eo22 with ea_ en_ ec_; (first | subst ea_ | (injection ea_ with ea_; subst ea_)); subst ec_; clear en_)); have GB22 := Aside0.mk gb22; have GG22 := Aside0.mk HG22; clear gb22 gl22 HG22; (first | simp only [add_plain] at hx218_0 | skip); (first | simp only [add_plain] at hx218_1 | skip); obtain ⟨ce22, hcl22, hM22, hcc22, hfr22⟩ := Kd.R_elem HO_6.out z72 ((ji18) : Int) p22 q22; obtain rfl := k72_openM hM22; have hx22_0 : w24.cell? ⟨go22, ((ji18) : Int).toNat * 2, none⟩ = some (.int .i64 ((rd_T72 x6_1 (ji18)).f0)) := hcc22 0 _ rfl; have hx22_1 : w24.cell? ⟨go22, ((ji18) : Int).toNat * 2 + 1, none⟩ = some (.int .i64 ((rd_T72 x6_1 (ji18)).f1)) := hcc22 1 _ rfl; have hf22_0 : w24.frozen? ⟨go22, ((ji18) : Int).toNat * 2, none⟩ = false := hfr22 0; have hf22_1 : w24.frozen? ⟨go22, ((ji18) : Int).toNat * 2 + 1, none⟩ = false := hfr22 1; clear hcl22 hcc22 hfr22 hM22; replace p22 := eq_true p22; replace q22 := eq_true q22; have HX26 := Aside0.mk (show Kd.R k72 72 w24 w.heap.size (fun _ => True) (.slice (some ⟨go22, 0, none⟩) x6_1.length co25) x6_1 from (zz13 HO_6)); obtain ⟨ce26, hcl26, hM26, hcc26, hfr26⟩ := Kd.R_elem HX26.out z72 ((ji18) : Int) (of_decide_eq_true zz19) (by have h_ : ((ji18) : Int) < ((x6_1.length : Int) : Int) := of_decide_eq_true zz19; first | exact h_ | (have e_ := (Kd.R_reads' HO_6.out).1; omega) | simpa using h_); obtain rfl := k72_openM hM26; have HP26 := Kd.R_seg HX26.out ((ji18) : Int) (of_decide_eq_true zz19) (by have h_ : ((ji18) : Int) < ((x6_1.length : Int) : Int) := of_decide_eq_true zz19; first | exact h_ | (have e_ := (Kd.R_reads' HO_6.out).1; omega) | simpa using h_) (seg := [.int .i64 (wrap64 ((rd t209 (ji15)) - 1))]) (j := 1) hcl26 hcc26 (show 2 ≤ 2 from by decide) (x' := (⟨(rd_T72 x6_1 (ji18)).f0, wrap64 ((rd t209 (ji15)) - 1)⟩ : S72)) (k72_mkM _ _ _ (⟨(rd_T72 x6_1 (ji18)).f0, wrap64 ((rd t209 (ji15)) - 1)⟩ : S72) ) (fun _ hk => hk); have hx26_1 := hcc26 1 _ rfl; (try simp only [show (k72).sz = 2 from rfl, Nat.mul_one, Nat.add_zero] at hx26_1); have hf26_1 := hfr26 1; (try simp only [show (k72).sz = 2 from rfl, Nat.mul_one, Nat.add_zero] at hf26_1); clear hcl26 hcc26 hfr26 hM26) | ((with_reducible refine gate_store (t := 3) (p := 61) rfl ?_); (try (rw [drewN_self w24]; generalize hq_ : World.drewN w24 _ = w24; have n0_ := Aside0.mk (Kd.R_at hq_ HO_5.out); have n1_ := Aside0.mk (Kd.R_at hq_ HO_6.out); have n2_ := Aside0.mk (below_at hq_ HB.out); clear hq_ HO_5 HO_6 HB; have HO_5 := n0_; have HO_6 := n1_; have HB := n2_; clear n0_ n1_ n2_; (try (have HX26 := Aside0.mk (show Kd.R k72 72 w24 w.heap.size (fun _ => True) (.slice (some ⟨go22, 0, none⟩) x6_1.length co25) x6_1 from (zz13 HO_6)))); (try (obtain ⟨ce26, hcl26, hM26, hcc26, hfr26⟩ := Kd.R_elem HX26.out z72 ((ji18) : Int) (of_decide_eq_true zz19) (by have h_ : ((ji18) : Int) < ((x6_1.length : Int) : Int) := of_decide_eq_true zz19; first | exact h_ | (have e_ := (Kd.R_reads' HO_6.out).1; omega) | simpa using h_))); (try (obtain rfl := k72_openM hM26)); (try (have HP26 := Kd.R_seg HX26.out ((ji18) : Int) (of_decide_eq_true zz19) (by have h_ : ((ji18) : Int) < ((x6_1.length : Int) : Int) := of_decide_eq_true zz19; first | exact h_ | (have e_ := (Kd.R_reads' HO_6.out).1; omega) | simpa using h_) (seg := [.int .i64 (wrap64 ((rd t209 (ji15)) - 1))]) (j := 1) hcl26 hcc26 (show 2 ≤ 2 from by decide) (x' := (⟨(rd_T72 x6_1 (ji18)).f0, wrap64 ((rd t209 (ji15)) - 1)⟩ : S72)) (k72_mkM _ _ _ (⟨(rd_T72 x6_1 (ji18)).f0, wrap64 ((rd t209 (ji15)) - 1)⟩ : S72) ) (fun _ hk => hk))); (try (have hx26_1 := hcc26 1 _ rfl)); (try (try simp only [show (k72).sz = 2 from rfl, Nat.mul_one, Nat.add_zero] at hx26_1)); (try (have hf26_1 := hfr26 1)); (try (try simp only [show (k72).sz = 2 from rfl, Nat.mul_one, Nat.add_zero] at hf26_1)); (try (clear hcl26 hcc26 hfr26 hM26)))); refine store_event (t := 3) (p := 61) (v := ?vo_w27) (w1 := (w24.setCell ⟨go22, ((ji18) : Int).toNat * 2 + 1, none⟩ (.int .i64 (wrap64 ((rd t209 (ji15)) - 1))))) ?hg ?ho ?hn ?hr ?_; (case ho => rfl); (case hg => rfl); (case hn => rfl); (case hr => exact zz14); intro w27 hw; have hg : w24.grownBy w27 (some go22) := (by rw [hw]; exact HP26.2); have hp_ : Kd.R k72 72 w27 w.heap.size (fun _ => True) (.slice (some ⟨go22, 0, none⟩) x6_1.length co25) y220 := (by rw [hw, Ny220.out]; exact HP26.1); clear HP26; replace HO_5 := Aside0.mk (Kd.R_over' (v := (.slice (some ⟨go22, 0, none⟩) x6_1.length co25)) (zz13 HO_5) (Kd.R_typed HO_6.out) (by decide) hg); replace HO_6 := Aside0.mk hp_; replace HB := Aside0.mk (zz39 GB22 : Below w.heap.size w w27); clear hg hw hp_))
        repeat (go_quiet (first | (go_at_call 104; (with_reducible refine (spec_l3Lead.calls k1 _ _ l0 (rd t209 x7_1) t216 _ ?side1 ?side2 A12.out).mono ?_); (case side1 => exact zz38 HR0); (case side2 => exact HC0.out); rintro e w24 ⟨rfl, hb⟩; replace HO_5 := Aside0.mk (Kd.R_below (zz13 HO_5) hb); replace HO_6 := Aside0.mk (Kd.R_below (zz13 HO_6) hb); replace HB := Aside0.mk (below_step zz2 hb); clear hb; have p217 : 0 ≤ ((ji15) : Int) := of_decide_eq_true zz19; have q217 : (ji15) < (t209.length : Int) := of_decide_eq_true zz19; obtain ⟨ad217, e217, hx217_0⟩ := Kd.at_int (Kd.R_reads' HO_5.out).2.2 (ji15) p217 q217; obtain rfl : ad215 = ad217 := (by injection e217); replace p217 := eq_true p217; replace q217 := eq_true q217; obtain ⟨Ao25, co25, eo25⟩ := Kd.R_slice HO_6.out; subst eo25; obtain ⟨⟨ad218, e218, hx218_0, hx218_1⟩, p218, q218⟩ := wi (at_T72 (Kd.R_reads' HO_6.out).2.2 (ji18)); cases e218; have p219 : 0 ≤ (x7_1 : Int) := of_decide_eq_true zz19; have q219 : x7_1 < (t209.length : Int) := of_decide_eq_true zz19; obtain ⟨ad219, e219, hx219_0⟩ := Kd.at_int (Kd.R_reads' HO_5.out).2.2 x7_1 p219 q219; obtain rfl : ad215 = ad219 := (by injection e219); replace p219 := eq_true p219; replace q219 := eq_true q219; have p22 : 0 ≤ ((ji18) : Int) := of_decide_eq_true zz19; have q22 : ((ji18) : Int) < ((x6_1.length : Int) : Int) := of_decide_eq_true zz19; obtain ⟨go22, co22, eo22, gb22, gl22, cl22, HG22⟩ := Kd.R_form HO_6.out (by omega); (first | cases eo22 | (injection eo22 with ea_ en_ ec_; (first | subst ea_ | (injection ea_ with ea_; subst ea_)); subst ec_; clear en_)); have GB22 := Aside0.mk gb22; have GG22 := Aside0.mk HG22; clear gb22 gl22 HG22; (first | simp only [add_plain] at hx218_0 | skip); (first | simp only [add_plain] at hx218_1 | skip); obtain ⟨ce22, hcl22, hM22, hcc22, hfr22⟩ := Kd.R_elem HO_6.out z72 ((ji18) : Int) p22 q22; obtain rfl := k72_openM hM22; have hx22_0 : w24.cell? ⟨go22, ((ji18) : Int).toNat * 2, none⟩ = some (.int .i64 ((rd_T72 x6_1 (ji18)).f0)) := hcc22 0 _ rfl; have hx22_1 : w24.cell? ⟨go22, ((ji18) : Int).toNat * 2 + 1, none⟩ = some (.int .i64 ((rd_T72 x6_1 (ji18)).f1)) := hcc22 1 _ rfl; have hf22_0 : w24.frozen? ⟨go22, ((ji18) : Int).toNat * 2, none⟩ = false := hfr22 0; have hf22_1 : w24.frozen? ⟨go22, ((ji18) : Int).toNat * 2 + 1, none⟩ = false := hfr22 1; clear hcl22 hcc22 hfr22 hM22; replace p22 := eq_true p22; replace q22 := eq_true q22; have HX26 := Aside0.mk (show Kd.R k72 72 w24 w.heap.size (fun _ => True) (.slice (some ⟨go22, 0, none⟩) x6_1.length co25) x6_1 from (zz13 HO_6)); obtain ⟨ce26, hcl26, hM26, hcc26, hfr26⟩ := Kd.R_elem HX26.out z72 ((ji18) : Int) (of_decide_eq_true zz19) (by have h_ : ((ji18) : Int) < ((x6_1.length : Int) : Int) := of_decide_eq_true zz19; first | exact h_ | (have e_ := (Kd.R_reads' HO_6.out).1; omega) | simpa using h_); obtain rfl := k72_openM hM26; have HP26 := Kd.R_seg HX26.out ((ji18) : Int) (of_decide_eq_true zz19) (by have h_ : ((ji18) : Int) < ((x6_1.length : Int) : Int) := of_decide_eq_true zz19; first | exact h_ | (have e_ := (Kd.R_reads' HO_6.out).1; omega) | simpa using h_) (seg := [.int .i64 (wrap64 ((rd t209 (ji15)) - 1))]) (j := 1) hcl26 hcc26 (show 2 ≤ 2 from by decide) (x' := (⟨(rd_T72 x6_1 (ji18)).f0, wrap64 ((rd t209 (ji15)) - 1)⟩ : S72)) (k72_mkM _ _ _ (⟨(rd_T72 x6_1 (ji18)).f0, wrap64 ((rd t209 (ji15)) - 1)⟩ : S72) ) (fun _ hk => hk); have hx26_1 := hcc26 1 _ rfl; (try simp only [show (k72).sz = 2 from rfl, Nat.mul_one, Nat.add_zero] at hx26_1); have hf26_1 := hfr26 1; (try simp only [show (k72).sz = 2 from rfl, Nat.mul_one, Nat.add_zero] at hf26_1); clear hcl26 hcc26 hfr26 hM26) | ((with_reducible refine gate_store (t := 3) (p := 61) rfl ?_); (try (rw [drewN_self w24]; generalize hq_ : World.drewN w24 _ = w24; have n0_ := Aside0.mk (Kd.R_at hq_ HO_5.out); have n1_ := Aside0.mk (Kd.R_at hq_ HO_6.out); have n2_ := Aside0.mk (below_at hq_ HB.out); clear hq_ HO_5 HO_6 HB; have HO_5 := n0_; have HO_6 := n1_; have HB := n2_; clear n0_ n1_ n2_; (try (have HX26 := Aside0.mk (show Kd.R k72 72 w24 w.heap.size (fun _ => True) (.slice (some ⟨go22, 0, none⟩) x6_1.length co25) x6_1 from (zz13 HO_6)))); (try (obtain ⟨ce26, hcl26, hM26, hcc26, hfr26⟩ := Kd.R_elem HX26.out z72 ((ji18) : Int) (of_decide_eq_true zz19) (by have h_ : ((ji18) : Int) < ((x6_1.length : Int) : Int) := of_decide_eq_true zz19; first | exact h_ | (have e_ := (Kd.R_reads' HO_6.out).1; omega) | simpa using h_))); (try (obtain rfl := k72_openM hM26)); (try (have HP26 := Kd.R_seg HX26.out ((ji18) : Int) (of_decide_eq_true zz19) (by have h_ : ((ji18) : Int) < ((x6_1.length : Int) : Int) := of_decide_eq_true zz19; first | exact h_ | (have e_ := (Kd.R_reads' HO_6.out).1; omega) | simpa using h_) (seg := [.int .i64 (wrap64 ((rd t209 (ji15)) - 1))]) (j := 1) hcl26 hcc26 (show 2 ≤ 2 from by decide) (x' := (⟨(rd_T72 x6_1 (ji18)).f0, wrap64 ((rd t209 (ji15)) - 1)⟩ : S72)) (k72_mkM _ _ _ (⟨(rd_T72 x6_1 (ji18)).f0, wrap64 ((rd t209 (ji15)) - 1)⟩ : S72) ) (fun _ hk => hk))); (try (have hx26_1 := hcc26 1 _ rfl)); (try (try simp only [show (k72).sz = 2 from rfl, Nat.mul_one, Nat.add_zero] at hx26_1)); (try (have hf26_1 := hfr26 1)); (try (try simp only [show (k72).sz = 2 from rfl, Nat.mul_one, Nat.add_zero] at hf26_1)); (try (clear hcl26 hcc26 hfr26 hM26)))); refine store_event (t := 3) (p := 61) (v := ?vo_w27) (w1 := (w24.setCell ⟨go22, ((ji18) : Int).toNat * 2 + 1, none⟩ (.int .i64 (wrap64 ((rd t209 (ji15)) - 1))))) ?hg ?ho ?hn ?hr ?_; (case ho => rfl); (case hg => rfl); (case hn => rfl); (case hr => exact zz14); intro w27 hw; have hg : w24.grownBy w27 (some go22) := (by rw [hw]; exact HP26.2); have hp_ : Kd.R k72 72 w27 w.heap.size (fun _ => True) (.slice (some ⟨go22, 0, none⟩) x6_1.length co25) y220 := (by rw [hw, Ny220.out]; exact HP26.1); clear HP26; replace HO_5 := Aside0.mk (Kd.R_over' (v := (.slice (some ⟨go22, 0, none⟩) x6_1.length co25)) (zz13 HO_5) (Kd.R_typed HO_6.out) (by decide) hg); replace HO_6 := Aside0.mk hp_; replace HB := Aside0.mk (zz39 GB22 : Below w.heap.size w w27); clear hg hw hp_)); try go_wp2_with (first | (go_at_call 104; (with_reducible refine (spec_l3Lead.calls k1 _ _ l0 (rd t209 x7_1) t216 _ ?side1 ?side2 A12.out).mono ?_); (case side1 => exact zz38 HR0); (case side2 => exact HC0.out); rintro e w24 ⟨rfl, hb⟩; replace HO_5 := Aside0.mk (Kd.R_below (zz13 HO_5) hb); replace HO_6 := Aside0.mk (Kd.R_below (zz13 HO_6) hb); replace HB := Aside0.mk (below_step zz2 hb); clear hb; have p217 : 0 ≤ ((ji15) : Int) := of_decide_eq_true zz19; have q217 : (ji15) < (t209.length : Int) := of_decide_eq_true zz19; obtain ⟨ad217, e217, hx217_0⟩ := Kd.at_int (Kd.R_reads' HO_5.out).2.2 (ji15) p217 q217; obtain rfl : ad215 = ad217 := (by injection e217); replace p217 := eq_true p217; replace q217 := eq_true q217; obtain ⟨Ao25, co25, eo25⟩ := Kd.R_slice HO_6.out; subst eo25; obtain ⟨⟨ad218, e218, hx218_0, hx218_1⟩, p218, q218⟩ := wi (at_T72 (Kd.R_reads' HO_6.out).2.2 (ji18)); cases e218; have p219 : 0 ≤ (x7_1 : Int) := of_decide_eq_true zz19; have q219 : x7_1 < (t209.length : Int) := of_decide_eq_true zz19; obtain ⟨ad219, e219, hx219_0⟩ := Kd.at_int (Kd.R_reads' HO_5.out).2.2 x7_1 p219 q219; obtain rfl : ad215 = ad219 := (by injection e219); replace p219 := eq_true p219; replace q219 := eq_true q219; have p22 : 0 ≤ ((ji18) : Int) := of_decide_eq_true zz19; have q22 : ((ji18) : Int) < ((x6_1.length : Int) : Int) := of_decide_eq_true zz19; obtain ⟨go22, co22, eo22, gb22, gl22, cl22, HG22⟩ := Kd.R_form HO_6.out (by omega); (first | cases eo22 | (injection eo22 with ea_ en_ ec_; (first | subst ea_ | (injection ea_ with ea_; subst ea_)); subst ec_; clear en_)); have GB22 := Aside0.mk gb22; have GG22 := Aside0.mk HG22; clear gb22 gl22 HG22; (first | simp only [add_plain] at hx218_0 | skip); (first | simp only [add_plain] at hx218_1 | skip); obtain ⟨ce22, hcl22, hM22, hcc22, hfr22⟩ := Kd.R_elem HO_6.out z72 ((ji18) : Int) p22 q22; obtain rfl := k72_openM hM22; have hx22_0 : w24.cell? ⟨go22, ((ji18) : Int).toNat * 2, none⟩ = some (.int .i64 ((rd_T72 x6_1 (ji18)).f0)) := hcc22 0 _ rfl; have hx22_1 : w24.cell? ⟨go22, ((ji18) : Int).toNat * 2 + 1, none⟩ = some (.int .i64 ((rd_T72 x6_1 (ji18)).f1)) := hcc22 1 _ rfl; have hf22_0 : w24.frozen? ⟨go22, ((ji18) : Int).toNat * 2, none⟩ = false := hfr22 0; have hf22_1 : w24.frozen? ⟨go22, ((ji18) : Int).toNat * 2 + 1, none⟩ = false := hfr22 1; clear hcl22 hcc22 hfr22 hM22; replace p22 := eq_true p22; replace q22 := eq_true q22; have HX26 := Aside0.mk (show Kd.R k72 72 w24 w.heap.size (fun _ => True) (.slice (some ⟨go22, 0, none⟩) x6_1.length co25) x6_1 from (zz13 HO_6)); obtain ⟨ce26, hcl26, hM26, hcc26, hfr26⟩ := Kd.R_elem HX26.out z72 ((ji18) : Int) (of_decide_eq_true zz19) (by have h_ : ((ji18) : Int) < ((x6_1.length : Int) : Int) := of_decide_eq_true zz19; first | exact h_ | (have e_ := (Kd.R_reads' HO_6.out).1; omega) | simpa using h_); obtain rfl := k72_openM hM26; have HP26 := Kd.R_seg HX26.out ((ji18) : Int) (of_decide_eq_true zz19) (by have h_ : ((ji18) : Int) < ((x6_1.length : Int) : Int) := of_decide_eq_true zz19; first | exact h_ | (have e_ := (Kd.R_reads' HO_6.out).1; omega) | simpa using h_) (seg := [.int .i64 (wrap64 ((rd t209 (ji15)) - 1))]) (j := 1) hcl26 hcc26 (show 2 ≤ 2 from by decide) (x' := (⟨(rd_T72 x6_1 (ji18)).f0, wrap64 ((rd t209 (ji15)) - 1)⟩ : S72)) (k72_mkM _ _ _ (⟨(rd_T72 x6_1 (ji18)).f0, wrap64 ((rd t209 (ji15)) - 1)⟩ : S72) ) (fun _ hk => hk); have hx26_1 := hcc26 1 _ rfl; (try simp only [show (k72).sz = 2 from rfl, Nat.mul_one, Nat.add_zero] at hx26_1); have hf26_1 := hfr26 1; (try simp only [show (k72).sz = 2 from rfl, Nat.mul_one, Nat.add_zero] at hf26_1); clear hcl26 hcc26 hfr26 hM26) | ((with_reducible refine gate_store (t := 3) (p := 61) rfl ?_); (try (rw [drewN_self w24]; generalize hq_ : World.drewN w24 _ = w24; have n0_ := Aside0.mk (Kd.R_at hq_ HO_5.out); have n1_ := Aside0.mk (Kd.R_at hq_ HO_6.out); have n2_ := Aside0.mk (below_at hq_ HB.out); clear hq_ HO_5 HO_6 HB; have HO_5 := n0_; have HO_6 := n1_; have HB := n2_; clear n0_ n1_ n2_; (try (have HX26 := Aside0.mk (show Kd.R k72 72 w24 w.heap.size (fun _ => True) (.slice (some ⟨go22, 0, none⟩) x6_1.length co25) x6_1 from (zz13 HO_6)))); (try (obtain ⟨ce26, hcl26, hM26, hcc26, hfr26⟩ := Kd.R_elem HX26.out z72 ((ji18) : Int) (of_decide_eq_true zz19) (by have h_ : ((ji18) : Int) < ((x6_1.length : Int) : Int) := of_decide_eq_true zz19; first | exact h_ | (have e_ := (Kd.R_reads' HO_6.out).1; omega) | simpa using h_))); (try (obtain rfl := k72_openM hM26)); (try (have HP26 := Kd.R_seg HX26.out ((ji18) : Int) (of_decide_eq_true zz19) (by have h_ : ((ji18) : Int) < ((x6_1.length : Int) : Int) := of_decide_eq_true zz19; first | exact h_ | (have e_ := (Kd.R_reads' HO_6.out).1; omega) | simpa using h_) (seg := [.int .i64 (wrap64 ((rd t209 (ji15)) - 1))]) (j := 1) hcl26 hcc26 (show 2 ≤ 2 from by decide) (x' := (⟨(rd_T72 x6_1 (ji18)).f0, wrap64 ((rd t209 (ji15)) - 1)⟩ : S72)) (k72_mkM _ _ _ (⟨(rd_T72 x6_1 (ji18)).f0, wrap64 ((rd t209 (ji15)) - 1)⟩ : S72) ) (fun _ hk => hk))); (try (have hx26_1 := hcc26 1 _ rfl)); (try (try simp only [show (k72).sz = 2 from rfl, Nat.mul_one, Nat.add_zero] at hx26_1)); (try (have hf26_1 := hfr26 1)); (try (try simp only [show (k72).sz = 2 from rfl, Nat.mul_one, Nat.add_zero] at hf26_1)); (try (clear hcl26 hcc26 hfr26 hM26)))); refine store_event (t := 3) (p := 61) (v := ?vo_w27) (w1 := (w24.setCell ⟨go22, ((ji18) : Int).toNat * 2 + 1, none⟩ (.int .i64 (wrap64 ((rd t209 (ji15)) - 1))))) ?hg ?ho ?hn ?hr ?_; (case ho => rfl); (case hg => rfl); (case hn => rfl); (case hr => exact zz14); intro w27 hw; have hg : w24.grownBy w27 (some go22) := (by rw [hw]; exact HP26.2); have hp_ : Kd.R k72 72 w27 w.heap.size (fun _ => True) (.slice (some ⟨go22, 0, none⟩) x6_1.length co25) y220 := (by rw [hw, Ny220.out]; exact HP26.1); clear HP26; replace HO_5 := Aside0.mk (Kd.R_over' (v := (.slice (some ⟨go22, 0, none⟩) x6_1.length co25)) (zz13 HO_5) (Kd.R_typed HO_6.out) (by decide) hg); replace HO_6 := Aside0.mk hp_; replace HB := Aside0.mk (zz39 GB22 : Below w.heap.size w w27); clear hg hw hp_)))
        go_roundg k1
        case measure => have := HK1.out; omega
        case rel => exact ⟨(y220), (ji15), (by first | rfl | (simp; done) | (simp only [← hji15] <;> (first | rfl | simp)) | (simp [*]; done)), (by first | exact H' | (rw [hji15]; exact H') | (simp only [hji15]; exact H') | (simp only [← hji15] at H'; exact H')), ⟨zz9 HK1⟩, ⟨zz13 HO_5⟩, ⟨zz13 HO_6⟩, ⟨zz2⟩⟩
       ·rw [if_neg c21] at H
        have c21b0 : ((wrap64 (((rd_T72 x6_1 (ji18)).f1) + 1)) == (rd t209 x7_1)) = false := beq_eq_false_iff_ne.mpr c21
        have c21b1 : ((wrap64 (((rd_T72 x6_1 (ji18)).f1) + 1)) != (rd t209 x7_1)) = true := bne_iff_ne.mpr c21
        replace H := gp H
        obtain ⟨c28, H⟩ := H
        have LMc28 := Aside0.mk c28
        clear c28
        obtain ⟨y222, hy222⟩ : ∃ y_ : List (S72), y_ = (x6_1 ++ [(⟨rd t209 x7_1, wrap64 ((rd t209 (ji15)) - 1)⟩ : S72)]) := ⟨_, rfl⟩
        replace H : (spec_l3Spans.l0 k1 l0 a1 t209 y222 ji15) = some r := by first | (rw [hy222]; with_reducible exact H) | (have H2_ := (Option.bind_some _ _).symm.trans H; rw [hy222]; with_reducible exact H2_) | (have H2_ := (Option.bind_some _ _).symm.trans H; with_reducible exact H2_) | with_reducible exact H | (rw [hy222]; exact H) | exact H
        have Ny222 := Aside0.mk hy222
        clear hy222
        have H' := Aside0.mk H
        clear H
        obtain ⟨Ao29, co29, eo29⟩ := Kd.R_slice HO_5.out
        subst eo29
        have p215 : 0 ≤ (x7_1 : Int) := da
        have q215 : x7_1 < (t209.length : Int) := da
        obtain ⟨ad215, e215, hx215_0⟩ := Kd.at_int (Kd.R_reads' HO_5.out).2.2 x7_1 p215 q215
        cases e215
        replace p215 := eq_true p215
        replace q215 := eq_true q215
        go_wp2_with (first | (go_at_call 104; (with_reducible refine (spec_l3Lead.calls k1 _ _ l0 (rd t209 x7_1) t216 _ ?side1 ?side2 A12.out).mono ?_); (case side1 => exact zz38 HR0); (case side2 => exact HC0.out); rintro e w30 ⟨rfl, hb⟩; replace HO_5 := Aside0.mk (Kd.R_below (zz13 HO_5) hb); replace HO_6 := Aside0.mk (Kd.R_below (zz13 HO_6) hb); replace HB := Aside0.mk (below_step zz2 hb); clear hb; have p217 : 0 ≤ ((ji15) : Int) := of_decide_eq_true zz19; have q217 : (ji15) < (t209.length : Int) := of_decide_eq_true zz19; obtain ⟨ad217, e217, hx217_0⟩ := Kd.at_int (Kd.R_reads' HO_5.out).2.2 (ji15) p217 q217; obtain rfl : ad215 = ad217 := (by injection e217); replace p217 := eq_true p217; replace q217 := eq_true q217; obtain ⟨Ao31, co31, eo31⟩ := Kd.R_slice HO_6.out; subst eo31; obtain ⟨⟨ad218, e218, hx218_0, hx218_1⟩, p218, q218⟩ := wi (at_T72 (Kd.R_reads' HO_6.out).2.2 (ji18)); cases e218; have p219 : 0 ≤ (x7_1 : Int) := of_decide_eq_true zz19; have q219 : x7_1 < (t209.length : Int) := of_decide_eq_true zz19; obtain ⟨ad219, e219, hx219_0⟩ := Kd.at_int (Kd.R_reads' HO_5.out).2.2 x7_1 p219 q219; obtain rfl : ad215 = ad219 := (by injection e219); replace p219 := eq_true p219; replace q219 := eq_true q219; have p221 : 0 ≤ (x7_1 : Int) := of_decide_eq_true zz19; have q221 : x7_1 < (t209.length : Int) := of_decide_eq_true zz19; obtain ⟨ad221, e221, hx221_0⟩ := Kd.at_int (Kd.R_reads' HO_5.out).2.2 x7_1 p221 q221; obtain rfl : ad215 = ad221 := (by injection e221); replace p221 := eq_true p221; replace q221 := eq_true q221) | ((with_reducible refine gate_builtin (b := .append) (xs := #[.tmp 62, .tmp 69]) rfl ?_); at_builtin; refine Kd.R_append k72 (w0 := w) w.heap.size rfl (.tmp 62) (.tmp 69) 73 72 (.agg #[(.int .i64 0), (.int .i64 0)]) 16 rfl Try.underlying73 info72 rfl (by decide) (by omega) (.slice (some ad218) x6_1.length co31) x6_1 (⟨rd t209 x7_1, wrap64 ((rd t209 (ji15)) - 1)⟩ : S72) [.int .i64 (rd t209 x7_1), .int .i64 (wrap64 ((rd t209 (ji15)) - 1))] (fun _ => True) (fun _ => False) rfl rfl ?aP (fun _ hk => hk.elim) ?aF ?aO ?aB ?aS ?aL ?_; (case aP => exact k72_mkM _ _ _ (⟨rd t209 x7_1, wrap64 ((rd t209 (ji15)) - 1)⟩ : S72)); (case aB => exact zz2); (case aF => exact zz40); (case aO => exact zz13 HO_6); (case aS => exact zz23); (case aL => exact zz9 LMc28); intro v223 w32 ho hb hg hat; rw [← Ny222.out] at ho; replace HO_5 := Aside0.mk (Kd.R_over' (zz13 HO_5) (Kd.R_typed (zz13 HO_6)) (by decide) hg); replace HB := Aside0.mk hb; have HO224 := Aside0.mk ho; clear HO_6 ho hb hg hat))
        repeat (go_quiet (first | (go_at_call 104; (with_reducible refine (spec_l3Lead.calls k1 _ _ l0 (rd t209 x7_1) t216 _ ?side1 ?side2 A12.out).mono ?_); (case side1 => exact zz38 HR0); (case side2 => exact HC0.out); rintro e w30 ⟨rfl, hb⟩; replace HO_5 := Aside0.mk (Kd.R_below (zz13 HO_5) hb); replace HO_6 := Aside0.mk (Kd.R_below (zz13 HO_6) hb); replace HB := Aside0.mk (below_step zz2 hb); clear hb; have p217 : 0 ≤ ((ji15) : Int) := of_decide_eq_true zz19; have q217 : (ji15) < (t209.length : Int) := of_decide_eq_true zz19; obtain ⟨ad217, e217, hx217_0⟩ := Kd.at_int (Kd.R_reads' HO_5.out).2.2 (ji15) p217 q217; obtain rfl : ad215 = ad217 := (by injection e217); replace p217 := eq_true p217; replace q217 := eq_true q217; obtain ⟨Ao31, co31, eo31⟩ := Kd.R_slice HO_6.out; subst eo31; obtain ⟨⟨ad218, e218, hx218_0, hx218_1⟩, p218, q218⟩ := wi (at_T72 (Kd.R_reads' HO_6.out).2.2 (ji18)); cases e218; have p219 : 0 ≤ (x7_1 : Int) := of_decide_eq_true zz19; have q219 : x7_1 < (t209.length : Int) := of_decide_eq_true zz19; obtain ⟨ad219, e219, hx219_0⟩ := Kd.at_int (Kd.R_reads' HO_5.out).2.2 x7_1 p219 q219; obtain rfl : ad215 = ad219 := (by injection e219); replace p219 := eq_true p219; replace q219 := eq_true q219; have p221 : 0 ≤ (x7_1 : Int) := of_decide_eq_true zz19; have q221 : x7_1 < (t209.length : Int) := of_decide_eq_true zz19; obtain ⟨ad221, e221, hx221_0⟩ := Kd.at_int (Kd.R_reads' HO_5.out).2.2 x7_1 p221 q221; obtain rfl : ad215 = ad221 := (by injection e221); replace p221 := eq_true p221; replace q221 := eq_true q221) | ((with_reducible refine gate_builtin (b := .append) (xs := #[.tmp 62, .tmp 69]) rfl ?_); at_builtin; refine Kd.R_append k72 (w0 := w) w.heap.size rfl (.tmp 62) (.tmp 69) 73 72 (.agg #[(.int .i64 0), (.int .i64 0)]) 16 rfl Try.underlying73 info72 rfl (by decide) (by omega) (.slice (some ad218) x6_1.length co31) x6_1 (⟨rd t209 x7_1, wrap64 ((rd t209 (ji15)) - 1)⟩ : S72) [.int .i64 (rd t209 x7_1), .int .i64 (wrap64 ((rd t209 (ji15)) - 1))] (fun _ => True) (fun _ => False) rfl rfl ?aP (fun _ hk => hk.elim) ?aF ?aO ?aB ?aS ?aL ?_; (case aP => exact k72_mkM _ _ _ (⟨rd t209 x7_1, wrap64 ((rd t209 (ji15)) - 1)⟩ : S72)); (case aB => exact zz2); (case aF => exact zz40); (case aO => exact zz13 HO_6); (case aS => exact zz23); (case aL => exact zz9 LMc28); intro v223 w32 ho hb hg hat; rw [← Ny222.out] at ho; replace HO_5 := Aside0.mk (Kd.R_over' (zz13 HO_5) (Kd.R_typed (zz13 HO_6)) (by decide) hg); replace HB := Aside0.mk hb; have HO224 := Aside0.mk ho; clear HO_6 ho hb hg hat)); try go_wp2_with (first | (go_at_call 104; (with_reducible refine (spec_l3Lead.calls k1 _ _ l0 (rd t209 x7_1) t216 _ ?side1 ?side2 A12.out).mono ?_); (case side1 => exact zz38 HR0); (case side2 => exact HC0.out); rintro e w30 ⟨rfl, hb⟩; replace HO_5 := Aside0.mk (Kd.R_below (zz13 HO_5) hb); replace HO_6 := Aside0.mk (Kd.R_below (zz13 HO_6) hb); replace HB := Aside0.mk (below_step zz2 hb); clear hb; have p217 : 0 ≤ ((ji15) : Int) := of_decide_eq_true zz19; have q217 : (ji15) < (t209.length : Int) := of_decide_eq_true zz19; obtain ⟨ad217, e217, hx217_0⟩ := Kd.at_int (Kd.R_reads' HO_5.out).2.2 (ji15) p217 q217; obtain rfl : ad215 = ad217 := (by injection e217); replace p217 := eq_true p217; replace q217 := eq_true q217; obtain ⟨Ao31, co31, eo31⟩ := Kd.R_slice HO_6.out; subst eo31; obtain ⟨⟨ad218, e218, hx218_0, hx218_1⟩, p218, q218⟩ := wi (at_T72 (Kd.R_reads' HO_6.out).2.2 (ji18)); cases e218; have p219 : 0 ≤ (x7_1 : Int) := of_decide_eq_true zz19; have q219 : x7_1 < (t209.length : Int) := of_decide_eq_true zz19; obtain ⟨ad219, e219, hx219_0⟩ := Kd.at_int (Kd.R_reads' HO_5.out).2.2 x7_1 p219 q219; obtain rfl : ad215 = ad219 := (by injection e219); replace p219 := eq_true p219; replace q219 := eq_true q219; have p221 : 0 ≤ (x7_1 : Int) := of_decide_eq_true zz19; have q221 : x7_1 < (t209.length : Int) := of_decide_eq_true zz19; obtain ⟨ad221, e221, hx221_0⟩ := Kd.at_int (Kd.R_reads' HO_5.out).2.2 x7_1 p221 q221; obtain rfl : ad215 = ad221 := (by injection e221); replace p221 := eq_true p221; replace q221 := eq_true q221) | ((with_reducible refine gate_builtin (b := .append) (xs := #[.tmp 62, .tmp 69]) rfl ?_); at_builtin; refine Kd.R_append k72 (w0 := w) w.heap.size rfl (.tmp 62) (.tmp 69) 73 72 (.agg #[(.int .i64 0), (.int .i64 0)]) 16 rfl Try.underlying73 info72 rfl (by decide) (by omega) (.slice (some ad218) x6_1.length co31) x6_1 (⟨rd t209 x7_1, wrap64 ((rd t209 (ji15)) - 1)⟩ : S72) [.int .i64 (rd t209 x7_1), .int .i64 (wrap64 ((rd t209 (ji15)) - 1))] (fun _ => True) (fun _ => False) rfl rfl ?aP (fun _ hk => hk.elim) ?aF ?aO ?aB ?aS ?aL ?_; (case aP => exact k72_mkM _ _ _ (⟨rd t209 x7_1, wrap64 ((rd t209 (ji15)) - 1)⟩ : S72)); (case aB => exact zz2); (case aF => exact zz40); (case aO => exact zz13 HO_6); (case aS => exact zz23); (case aL => exact zz9 LMc28); intro v223 w32 ho hb hg hat; rw [← Ny222.out] at ho; replace HO_5 := Aside0.mk (Kd.R_over' (zz13 HO_5) (Kd.R_typed (zz13 HO_6)) (by decide) hg); replace HB := Aside0.mk hb; have HO224 := Aside0.mk ho; clear HO_6 ho hb hg hat)))
        go_roundg k1
        case measure => have := HK1.out; omega
        case rel => exact ⟨(y222), (ji15), (by first | rfl | (simp; done) | (simp only [← hji15] <;> (first | rfl | simp)) | (simp [*]; done)), (by first | exact H' | (rw [hji15]; exact H') | (simp only [hji15]; exact H') | (simp only [← hji15] at H'; exact H')), ⟨zz9 HK1⟩, ⟨zz13 HO_5⟩, ⟨zz13 HO224⟩, ⟨zz2⟩⟩
      ·replace H := gp H
       obtain ⟨c33, H⟩ := H
       have LMc33 := Aside0.mk c33
       clear c33
       obtain ⟨y226, hy226⟩ : ∃ y_ : List (S72), y_ = (x6_1 ++ [(⟨rd t209 x7_1, wrap64 ((rd t209 (ji15)) - 1)⟩ : S72)]) := ⟨_, rfl⟩
       replace H : (spec_l3Spans.l0 k1 l0 a1 t209 y226 ji15) = some r := by first | (rw [hy226]; with_reducible exact H) | (have H2_ := (Option.bind_some _ _).symm.trans H; rw [hy226]; with_reducible exact H2_) | (have H2_ := (Option.bind_some _ _).symm.trans H; with_reducible exact H2_) | with_reducible exact H | (rw [hy226]; exact H) | exact H
       have Ny226 := Aside0.mk hy226
       clear hy226
       have H' := Aside0.mk H
       clear H
       obtain ⟨Ao34, co34, eo34⟩ := Kd.R_slice HO_5.out
       subst eo34
       have p215 : 0 ≤ (x7_1 : Int) := da
       have q215 : x7_1 < (t209.length : Int) := da
       obtain ⟨ad215, e215, hx215_0⟩ := Kd.at_int (Kd.R_reads' HO_5.out).2.2 x7_1 p215 q215
       cases e215
       replace p215 := eq_true p215
       replace q215 := eq_true q215
       go_wp2_with (first | (go_at_call 104; (with_reducible refine (spec_l3Lead.calls k1 _ _ l0 (rd t209 x7_1) t216 _ ?side1 ?side2 A12.out).mono ?_); (case side1 => exact zz38 HR0); (case side2 => exact HC0.out); rintro e w35 ⟨rfl, hb⟩; replace HO_5 := Aside0.mk (Kd.R_below (zz13 HO_5) hb); replace HO_6 := Aside0.mk (Kd.R_below (zz13 HO_6) hb); replace HB := Aside0.mk (below_step zz2 hb); clear hb; have p217 : 0 ≤ ((ji15) : Int) := of_decide_eq_true zz19; have q217 : (ji15) < (t209.length : Int) := of_decide_eq_true zz19; obtain ⟨ad217, e217, hx217_0⟩ := Kd.at_int (Kd.R_reads' HO_5.out).2.2 (ji15) p217 q217; obtain rfl : ad215 = ad217 := (by injection e217); replace p217 := eq_true p217; replace q217 := eq_true q217; obtain ⟨Ao36, co36, eo36⟩ := Kd.R_slice HO_6.out; subst eo36; have p225 : 0 ≤ (x7_1 : Int) := of_decide_eq_true zz19; have q225 : x7_1 < (t209.length : Int) := of_decide_eq_true zz19; obtain ⟨ad225, e225, hx225_0⟩ := Kd.at_int (Kd.R_reads' HO_5.out).2.2 x7_1 p225 q225; obtain rfl : ad215 = ad225 := (by injection e225); replace p225 := eq_true p225; replace q225 := eq_true q225) | ((with_reducible refine gate_builtin (b := .append) (xs := #[.tmp 62, .tmp 69]) rfl ?_); at_builtin; refine Kd.R_append k72 (w0 := w) w.heap.size rfl (.tmp 62) (.tmp 69) 73 72 (.agg #[(.int .i64 0), (.int .i64 0)]) 16 rfl Try.underlying73 info72 rfl (by decide) (by omega) (.slice Ao36 x6_1.length co36) x6_1 (⟨rd t209 x7_1, wrap64 ((rd t209 (ji15)) - 1)⟩ : S72) [.int .i64 (rd t209 x7_1), .int .i64 (wrap64 ((rd t209 (ji15)) - 1))] (fun _ => True) (fun _ => False) rfl rfl ?aP (fun _ hk => hk.elim) ?aF ?aO ?aB ?aS ?aL ?_; (case aP => exact k72_mkM _ _ _ (⟨rd t209 x7_1, wrap64 ((rd t209 (ji15)) - 1)⟩ : S72)); (case aB => exact zz2); (case aF => exact zz40); (case aO => exact zz13 HO_6); (case aS => exact zz23); (case aL => exact zz9 LMc33); intro v227 w37 ho hb hg hat; rw [← Ny226.out] at ho; replace HO_5 := Aside0.mk (Kd.R_over' (zz13 HO_5) (Kd.R_typed (zz13 HO_6)) (by decide) hg); replace HB := Aside0.mk hb; have HO228 := Aside0.mk ho; clear HO_6 ho hb hg hat))
       repeat (go_quiet (first | (go_at_call 104; (with_reducible refine (spec_l3Lead.calls k1 _ _ l0 (rd t209 x7_1) t216 _ ?side1 ?side2 A12.out).mono ?_); (case side1 => exact zz38 HR0); (case side2 => exact HC0.out); rintro e w35 ⟨rfl, hb⟩; replace HO_5 := Aside0.mk (Kd.R_below (zz13 HO_5) hb); replace HO_6 := Aside0.mk (Kd.R_below (zz13 HO_6) hb); replace HB := Aside0.mk (below_step zz2 hb); clear hb; have p217 : 0 ≤ ((ji15) : Int) := of_decide_eq_true zz19; have q217 : (ji15) < (t209.length : Int) := of_decide_eq_true zz19; obtain ⟨ad217, e217, hx217_0⟩ := Kd.at_int (Kd.R_reads' HO_5.out).2.2 (ji15) p217 q217; obtain rfl : ad215 = ad217 := (by injection e217); replace p217 := eq_true p217; replace q217 := eq_true q217; obtain ⟨Ao36, co36, eo36⟩ := Kd.R_slice HO_6.out; subst eo36; have p225 : 0 ≤ (x7_1 : Int) := of_decide_eq_true zz19; have q225 : x7_1 < (t209.length : Int) := of_decide_eq_true zz19; obtain ⟨ad225, e225, hx225_0⟩ := Kd.at_int (Kd.R_reads' HO_5.out).2.2 x7_1 p225 q225; obtain rfl : ad215 = ad225 := (by injection e225); replace p225 := eq_true p225; replace q225 := eq_true q225) | ((with_reducible refine gate_builtin (b := .append) (xs := #[.tmp 62, .tmp 69]) rfl ?_); at_builtin; refine Kd.R_append k72 (w0 := w) w.heap.size rfl (.tmp 62) (.tmp 69) 73 72 (.agg #[(.int .i64 0), (.int .i64 0)]) 16 rfl Try.underlying73 info72 rfl (by decide) (by omega) (.slice Ao36 x6_1.length co36) x6_1 (⟨rd t209 x7_1, wrap64 ((rd t209 (ji15)) - 1)⟩ : S72) [.int .i64 (rd t209 x7_1), .int .i64 (wrap64 ((rd t209 (ji15)) - 1))] (fun _ => True) (fun _ => False) rfl rfl ?aP (fun _ hk => hk.elim) ?aF ?aO ?aB ?aS ?aL ?_; (case aP => exact k72_mkM _ _ _ (⟨rd t209 x7_1, wrap64 ((rd t209 (ji15)) - 1)⟩ : S72)); (case aB => exact zz2); (case aF => exact zz40); (case aO => exact zz13 HO_6); (case aS => exact zz23); (case aL => exact zz9 LMc33); intro v227 w37 ho hb hg hat; rw [← Ny226.out] at ho; replace HO_5 := Aside0.mk (Kd.R_over' (zz13 HO_5) (Kd.R_typed (zz13 HO_6)) (by decide) hg); replace HB := Aside0.mk hb; have HO228 := Aside0.mk ho; clear HO_6 ho hb hg hat)); try go_wp2_with (first | (go_at_call 104; (with_reducible refine (spec_l3Lead.calls k1 _ _ l0 (rd t209 x7_1) t216 _ ?side1 ?side2 A12.out).mono ?_); (case side1 => exact zz38 HR0); (case side2 => exact HC0.out); rintro e w35 ⟨rfl, hb⟩; replace HO_5 := Aside0.mk (Kd.R_below (zz13 HO_5) hb); replace HO_6 := Aside0.mk (Kd.R_below (zz13 HO_6) hb); replace HB := Aside0.mk (below_step zz2 hb); clear hb; have p217 : 0 ≤ ((ji15) : Int) := of_decide_eq_true zz19; have q217 : (ji15) < (t209.length : Int) := of_decide_eq_true zz19; obtain ⟨ad217, e217, hx217_0⟩ := Kd.at_int (Kd.R_reads' HO_5.out).2.2 (ji15) p217 q217; obtain rfl : ad215 = ad217 := (by injection e217); replace p217 := eq_true p217; replace q217 := eq_true q217; obtain ⟨Ao36, co36, eo36⟩ := Kd.R_slice HO_6.out; subst eo36; have p225 : 0 ≤ (x7_1 : Int) := of_decide_eq_true zz19; have q225 : x7_1 < (t209.length : Int) := of_decide_eq_true zz19; obtain ⟨ad225, e225, hx225_0⟩ := Kd.at_int (Kd.R_reads' HO_5.out).2.2 x7_1 p225 q225; obtain rfl : ad215 = ad225 := (by injection e225); replace p225 := eq_true p225; replace q225 := eq_true q225) | ((with_reducible refine gate_builtin (b := .append) (xs := #[.tmp 62, .tmp 69]) rfl ?_); at_builtin; refine Kd.R_append k72 (w0 := w) w.heap.size rfl (.tmp 62) (.tmp 69) 73 72 (.agg #[(.int .i64 0), (.int .i64 0)]) 16 rfl Try.underlying73 info72 rfl (by decide) (by omega) (.slice Ao36 x6_1.length co36) x6_1 (⟨rd t209 x7_1, wrap64 ((rd t209 (ji15)) - 1)⟩ : S72) [.int .i64 (rd t209 x7_1), .int .i64 (wrap64 ((rd t209 (ji15)) - 1))] (fun _ => True) (fun _ => False) rfl rfl ?aP (fun _ hk => hk.elim) ?aF ?aO ?aB ?aS ?aL ?_; (case aP => exact k72_mkM _ _ _ (⟨rd t209 x7_1, wrap64 ((rd t209 (ji15)) - 1)⟩ : S72)); (case aB => exact zz2); (case aF => exact zz40); (case aO => exact zz13 HO_6); (case aS => exact zz23); (case aL => exact zz9 LMc33); intro v227 w37 ho hb hg hat; rw [← Ny226.out] at ho; replace HO_5 := Aside0.mk (Kd.R_over' (zz13 HO_5) (Kd.R_typed (zz13 HO_6)) (by decide) hg); replace HB := Aside0.mk hb; have HO228 := Aside0.mk ho; clear HO_6 ho hb hg hat)))
       go_roundg k1
       case measure => have := HK1.out; omega
       case rel => exact ⟨(y226), (ji15), (by first | rfl | (simp; done) | (simp only [← hji15] <;> (first | rfl | simp)) | (simp [*]; done)), (by first | exact H' | (rw [hji15]; exact H') | (simp only [hji15]; exact H') | (simp only [← hji15] at H'; exact H')), ⟨zz9 HK1⟩, ⟨zz13 HO_5⟩, ⟨zz13 HO228⟩, ⟨zz2⟩⟩
     ·replace H := ic H
      rcases H with ⟨c38b0, H⟩ | ⟨c38b0, H⟩
      ·obtain ⟨ji39, hji39⟩ : ∃ j_ : Int, (wrap64 ((x6_1.length : Int) - 1)) = j_ := ⟨_, rfl⟩
       replace H : (if 0 ≤ (ji39) then (if (ji39) < (x6_1.length : Int) then (if (wrap64 (((rd_T72 x6_1 (ji39)).f1) + 1)) = (rd t209 x7_1) then (spec_l3Spans.l0 k1 l0 a1 t209 (x6_1.set ((ji39) : Int).toNat (⟨(rd_T72 x6_1 (ji39)).f0, 4294967295⟩ : S72)) (wrap64 (x7_1 + 1))) else (if x6_1.length < 8796093022208 then (spec_l3Spans.l0 k1 l0 a1 t209 (x6_1 ++ [(⟨rd t209 x7_1, 4294967295⟩ : S72)]) (wrap64 (x7_1 + 1))) else (none))) else (none)) else (none)) = some r := by first | (rw [hji39] at H; exact H) | (simp only [hji39] at H ⊢; exact H)
       (try rw [hji39] at c38b0)
       (try rw [hji39] at A12)
       have hji39w : (IntKind.i64.wrap ((x6_1.length : Int) - 1)) = ji39 := (i64_w _).trans hji39
       replace H := gd H
       obtain ⟨c40b0, H⟩ := H
       replace H := gd H
       obtain ⟨c41b0, H⟩ := H
       by_cases c42 : (wrap64 (((rd_T72 x6_1 (ji39)).f1) + 1)) = (rd t209 x7_1)
       ·rw [if_pos c42] at H
        have c42b0 : ((wrap64 (((rd_T72 x6_1 (ji39)).f1) + 1)) == (rd t209 x7_1)) = true := beq_iff_eq.mpr c42
        have c42b1 : ((wrap64 (((rd_T72 x6_1 (ji39)).f1) + 1)) != (rd t209 x7_1)) = false := bne_eq_false_iff_eq.mpr c42
        clear c42
        obtain ⟨y231, hy231⟩ : ∃ y_ : List (S72), y_ = (x6_1.set ((ji39) : Int).toNat (⟨(rd_T72 x6_1 (ji39)).f0, 4294967295⟩ : S72)) := ⟨_, rfl⟩
        replace H : (spec_l3Spans.l0 k1 l0 a1 t209 y231 (wrap64 (x7_1 + 1))) = some r := by first | (rw [hy231]; with_reducible exact H) | (have H2_ := (Option.bind_some _ _).symm.trans H; rw [hy231]; with_reducible exact H2_) | (have H2_ := (Option.bind_some _ _).symm.trans H; with_reducible exact H2_) | with_reducible exact H | (rw [hy231]; exact H) | exact H
        have Ny231 := Aside0.mk hy231
        clear hy231
        have H' := Aside0.mk H
        clear H
        obtain ⟨Ao44, co44, eo44⟩ := Kd.R_slice HO_5.out
        subst eo44
        have p215 : 0 ≤ (x7_1 : Int) := da
        have q215 : x7_1 < (t209.length : Int) := da
        obtain ⟨ad215, e215, hx215_0⟩ := Kd.at_int (Kd.R_reads' HO_5.out).2.2 x7_1 p215 q215
        cases e215
        replace p215 := eq_true p215
        replace q215 := eq_true q215
        go_wp2_with (first | (go_at_call 104; (with_reducible refine (spec_l3Lead.calls k1 _ _ l0 (rd t209 x7_1) t216 _ ?side1 ?side2 A12.out).mono ?_); (case side1 => exact zz38 HR0); (case side2 => exact HC0.out); rintro e w45 ⟨rfl, hb⟩; replace HO_5 := Aside0.mk (Kd.R_below (zz13 HO_5) hb); replace HO_6 := Aside0.mk (Kd.R_below (zz13 HO_6) hb); replace HB := Aside0.mk (below_step zz2 hb); clear hb; obtain ⟨Ao46, co46, eo46⟩ := Kd.R_slice HO_6.out; subst eo46; obtain ⟨⟨ad229, e229, hx229_0, hx229_1⟩, p229, q229⟩ := wi (at_T72 (Kd.R_reads' HO_6.out).2.2 (ji39)); cases e229; have p230 : 0 ≤ (x7_1 : Int) := of_decide_eq_true zz19; have q230 : x7_1 < (t209.length : Int) := of_decide_eq_true zz19; obtain ⟨ad230, e230, hx230_0⟩ := Kd.at_int (Kd.R_reads' HO_5.out).2.2 x7_1 p230 q230; obtain rfl : ad215 = ad230 := (by injection e230); replace p230 := eq_true p230; replace q230 := eq_true q230; have p43 : 0 ≤ ((ji39) : Int) := of_decide_eq_true zz19; have q43 : ((ji39) : Int) < ((x6_1.length : Int) : Int) := of_decide_eq_true zz19; obtain ⟨go43, co43, eo43, gb43, gl43, cl43, HG43⟩ := Kd.R_form HO_6.out (by omega); (first | cases eo43 | (injection eo43 with ea_ en_ ec_; (first | subst ea_ | (injection ea_ with ea_; subst ea_)); subst ec_; clear en_)); have GB43 := Aside0.mk gb43; have GG43 := Aside0.mk HG43; clear gb43 gl43 HG43; (first | simp only [add_plain] at hx229_0 | skip); (first | simp only [add_plain] at hx229_1 | skip); obtain ⟨ce43, hcl43, hM43, hcc43, hfr43⟩ := Kd.R_elem HO_6.out z72 ((ji39) : Int) p43 q43; obtain rfl := k72_openM hM43; have hx43_0 : w45.cell? ⟨go43, ((ji39) : Int).toNat * 2, none⟩ = some (.int .i64 ((rd_T72 x6_1 (ji39)).f0)) := hcc43 0 _ rfl; have hx43_1 : w45.cell? ⟨go43, ((ji39) : Int).toNat * 2 + 1, none⟩ = some (.int .i64 ((rd_T72 x6_1 (ji39)).f1)) := hcc43 1 _ rfl; have hf43_0 : w45.frozen? ⟨go43, ((ji39) : Int).toNat * 2, none⟩ = false := hfr43 0; have hf43_1 : w45.frozen? ⟨go43, ((ji39) : Int).toNat * 2 + 1, none⟩ = false := hfr43 1; clear hcl43 hcc43 hfr43 hM43; replace p43 := eq_true p43; replace q43 := eq_true q43; have HX47 := Aside0.mk (show Kd.R k72 72 w45 w.heap.size (fun _ => True) (.slice (some ⟨go43, 0, none⟩) x6_1.length co46) x6_1 from (zz13 HO_6)); obtain ⟨ce47, hcl47, hM47, hcc47, hfr47⟩ := Kd.R_elem HX47.out z72 ((ji39) : Int) (of_decide_eq_true zz19) (by have h_ : ((ji39) : Int) < ((x6_1.length : Int) : Int) := of_decide_eq_true zz19; first | exact h_ | (have e_ := (Kd.R_reads' HO_6.out).1; omega) | simpa using h_); obtain rfl := k72_openM hM47; have HP47 := Kd.R_seg HX47.out ((ji39) : Int) (of_decide_eq_true zz19) (by have h_ : ((ji39) : Int) < ((x6_1.length : Int) : Int) := of_decide_eq_true zz19; first | exact h_ | (have e_ := (Kd.R_reads' HO_6.out).1; omega) | simpa using h_) (seg := [.int .i64 4294967295]) (j := 1) hcl47 hcc47 (show 2 ≤ 2 from by decide) (x' := (⟨(rd_T72 x6_1 (ji39)).f0, 4294967295⟩ : S72)) (k72_mkM _ _ _ (⟨(rd_T72 x6_1 (ji39)).f0, 4294967295⟩ : S72) ) (fun _ hk => hk); have hx47_1 := hcc47 1 _ rfl; (try simp only [show (k72).sz = 2 from rfl, Nat.mul_one, Nat.add_zero] at hx47_1); have hf47_1 := hfr47 1; (try simp only [show (k72).sz = 2 from rfl, Nat.mul_one, Nat.add_zero] at hf47_1); clear hcl47 hcc47 hfr47 hM47) | ((with_reducible refine gate_store (t := 3) (p := 61) rfl ?_); (try (rw [drewN_self w45]; generalize hq_ : World.drewN w45 _ = w45; have n0_ := Aside0.mk (Kd.R_at hq_ HO_5.out); have n1_ := Aside0.mk (Kd.R_at hq_ HO_6.out); have n2_ := Aside0.mk (below_at hq_ HB.out); clear hq_ HO_5 HO_6 HB; have HO_5 := n0_; have HO_6 := n1_; have HB := n2_; clear n0_ n1_ n2_; (try (have HX47 := Aside0.mk (show Kd.R k72 72 w45 w.heap.size (fun _ => True) (.slice (some ⟨go43, 0, none⟩) x6_1.length co46) x6_1 from (zz13 HO_6)))); (try (obtain ⟨ce47, hcl47, hM47, hcc47, hfr47⟩ := Kd.R_elem HX47.out z72 ((ji39) : Int) (of_decide_eq_true zz19) (by have h_ : ((ji39) : Int) < ((x6_1.length : Int) : Int) := of_decide_eq_true zz19; first | exact h_ | (have e_ := (Kd.R_reads' HO_6.out).1; omega) | simpa using h_))); (try (obtain rfl := k72_openM hM47)); (try (have HP47 := Kd.R_seg HX47.out ((ji39) : Int) (of_decide_eq_true zz19) (by have h_ : ((ji39) : Int) < ((x6_1.length : Int) : Int) := of_decide_eq_true zz19; first | exact h_ | (have e_ := (Kd.R_reads' HO_6.out).1; omega) | simpa using h_) (seg := [.int .i64 4294967295]) (j := 1) hcl47 hcc47 (show 2 ≤ 2 from by decide) (x' := (⟨(rd_T72 x6_1 (ji39)).f0, 4294967295⟩ : S72)) (k72_mkM _ _ _ (⟨(rd_T72 x6_1 (ji39)).f0, 4294967295⟩ : S72) ) (fun _ hk => hk))); (try (have hx47_1 := hcc47 1 _ rfl)); (try (try simp only [show (k72).sz = 2 from rfl, Nat.mul_one, Nat.add_zero] at hx47_1)); (try (have hf47_1 := hfr47 1)); (try (try simp only [show (k72).sz = 2 from rfl, Nat.mul_one, Nat.add_zero] at hf47_1)); (try (clear hcl47 hcc47 hfr47 hM47)))); refine store_event (t := 3) (p := 61) (v := ?vo_w48) (w1 := (w45.setCell ⟨go43, ((ji39) : Int).toNat * 2 + 1, none⟩ (.int .i64 4294967295))) ?hg ?ho ?hn ?hr ?_; (case ho => rfl); (case hg => rfl); (case hn => rfl); (case hr => exact zz14); intro w48 hw; have hg : w45.grownBy w48 (some go43) := (by rw [hw]; exact HP47.2); have hp_ : Kd.R k72 72 w48 w.heap.size (fun _ => True) (.slice (some ⟨go43, 0, none⟩) x6_1.length co46) y231 := (by rw [hw, Ny231.out]; exact HP47.1); clear HP47; replace HO_5 := Aside0.mk (Kd.R_over' (v := (.slice (some ⟨go43, 0, none⟩) x6_1.length co46)) (zz13 HO_5) (Kd.R_typed HO_6.out) (by decide) hg); replace HO_6 := Aside0.mk hp_; replace HB := Aside0.mk (zz39 GB43 : Below w.heap.size w w48); clear hg hw hp_))
        repeat (go_quiet (first | (go_at_call 104; (with_reducible refine (spec_l3Lead.calls k1 _ _ l0 (rd t209 x7_1) t216 _ ?side1 ?side2 A12.out).mono ?_); (case side1 => exact zz38 HR0); (case side2 => exact HC0.out); rintro e w45 ⟨rfl, hb⟩; replace HO_5 := Aside0.mk (Kd.R_below (zz13 HO_5) hb); replace HO_6 := Aside0.mk (Kd.R_below (zz13 HO_6) hb); replace HB := Aside0.mk (below_step zz2 hb); clear hb; obtain ⟨Ao46, co46, eo46⟩ := Kd.R_slice HO_6.out; subst eo46; obtain ⟨⟨ad229, e229, hx229_0, hx229_1⟩, p229, q229⟩ := wi (at_T72 (Kd.R_reads' HO_6.out).2.2 (ji39)); cases e229; have p230 : 0 ≤ (x7_1 : Int) := of_decide_eq_true zz19; have q230 : x7_1 < (t209.length : Int) := of_decide_eq_true zz19; obtain ⟨ad230, e230, hx230_0⟩ := Kd.at_int (Kd.R_reads' HO_5.out).2.2 x7_1 p230 q230; obtain rfl : ad215 = ad230 := (by injection e230); replace p230 := eq_true p230; replace q230 := eq_true q230; have p43 : 0 ≤ ((ji39) : Int) := of_decide_eq_true zz19; have q43 : ((ji39) : Int) < ((x6_1.length : Int) : Int) := of_decide_eq_true zz19; obtain ⟨go43, co43, eo43, gb43, gl43, cl43, HG43⟩ := Kd.R_form HO_6.out (by omega); (first | cases eo43 | (injection eo43 with ea_ en_ ec_; (first | subst ea_ | (injection ea_ with ea_; subst ea_)); subst ec_; clear en_)); have GB43 := Aside0.mk gb43; have GG43 := Aside0.mk HG43; clear gb43 gl43 HG43; (first | simp only [add_plain] at hx229_0 | skip); (first | simp only [add_plain] at hx229_1 | skip); obtain ⟨ce43, hcl43, hM43, hcc43, hfr43⟩ := Kd.R_elem HO_6.out z72 ((ji39) : Int) p43 q43; obtain rfl := k72_openM hM43; have hx43_0 : w45.cell? ⟨go43, ((ji39) : Int).toNat * 2, none⟩ = some (.int .i64 ((rd_T72 x6_1 (ji39)).f0)) := hcc43 0 _ rfl; have hx43_1 : w45.cell? ⟨go43, ((ji39) : Int).toNat * 2 + 1, none⟩ = some (.int .i64 ((rd_T72 x6_1 (ji39)).f1)) := hcc43 1 _ rfl; have hf43_0 : w45.frozen? ⟨go43, ((ji39) : Int).toNat * 2, none⟩ = false := hfr43 0; have hf43_1 : w45.frozen? ⟨go43, ((ji39) : Int).toNat * 2 + 1, none⟩ = false := hfr43 1; clear hcl43 hcc43 hfr43 hM43; replace p43 := eq_true p43; replace q43 := eq_true q43; have HX47 := Aside0.mk (show Kd.R k72 72 w45 w.heap.size (fun _ => True) (.slice (some ⟨go43, 0, none⟩) x6_1.length co46) x6_1 from (zz13 HO_6)); obtain ⟨ce47, hcl47, hM47, hcc47, hfr47⟩ := Kd.R_elem HX47.out z72 ((ji39) : Int) (of_decide_eq_true zz19) (by have h_ : ((ji39) : Int) < ((x6_1.length : Int) : Int) := of_decide_eq_true zz19; first | exact h_ | (have e_ := (Kd.R_reads' HO_6.out).1; omega) | simpa using h_); obtain rfl := k72_openM hM47; have HP47 := Kd.R_seg HX47.out ((ji39) : Int) (of_decide_eq_true zz19) (by have h_ : ((ji39) : Int) < ((x6_1.length : Int) : Int) := of_decide_eq_true zz19; first | exact h_ | (have e_ := (Kd.R_reads' HO_6.out).1; omega) | simpa using h_) (seg := [.int .i64 4294967295]) (j := 1) hcl47 hcc47 (show 2 ≤ 2 from by decide) (x' := (⟨(rd_T72 x6_1 (ji39)).f0, 4294967295⟩ : S72)) (k72_mkM _ _ _ (⟨(rd_T72 x6_1 (ji39)).f0, 4294967295⟩ : S72) ) (fun _ hk => hk); have hx47_1 := hcc47 1 _ rfl; (try simp only [show (k72).sz = 2 from rfl, Nat.mul_one, Nat.add_zero] at hx47_1); have hf47_1 := hfr47 1; (try simp only [show (k72).sz = 2 from rfl, Nat.mul_one, Nat.add_zero] at hf47_1); clear hcl47 hcc47 hfr47 hM47) | ((with_reducible refine gate_store (t := 3) (p := 61) rfl ?_); (try (rw [drewN_self w45]; generalize hq_ : World.drewN w45 _ = w45; have n0_ := Aside0.mk (Kd.R_at hq_ HO_5.out); have n1_ := Aside0.mk (Kd.R_at hq_ HO_6.out); have n2_ := Aside0.mk (below_at hq_ HB.out); clear hq_ HO_5 HO_6 HB; have HO_5 := n0_; have HO_6 := n1_; have HB := n2_; clear n0_ n1_ n2_; (try (have HX47 := Aside0.mk (show Kd.R k72 72 w45 w.heap.size (fun _ => True) (.slice (some ⟨go43, 0, none⟩) x6_1.length co46) x6_1 from (zz13 HO_6)))); (try (obtain ⟨ce47, hcl47, hM47, hcc47, hfr47⟩ := Kd.R_elem HX47.out z72 ((ji39) : Int) (of_decide_eq_true zz19) (by have h_ : ((ji39) : Int) < ((x6_1.length : Int) : Int) := of_decide_eq_true zz19; first | exact h_ | (have e_ := (Kd.R_reads' HO_6.out).1; omega) | simpa using h_))); (try (obtain rfl := k72_openM hM47)); (try (have HP47 := Kd.R_seg HX47.out ((ji39) : Int) (of_decide_eq_true zz19) (by have h_ : ((ji39) : Int) < ((x6_1.length : Int) : Int) := of_decide_eq_true zz19; first | exact h_ | (have e_ := (Kd.R_reads' HO_6.out).1; omega) | simpa using h_) (seg := [.int .i64 4294967295]) (j := 1) hcl47 hcc47 (show 2 ≤ 2 from by decide) (x' := (⟨(rd_T72 x6_1 (ji39)).f0, 4294967295⟩ : S72)) (k72_mkM _ _ _ (⟨(rd_T72 x6_1 (ji39)).f0, 4294967295⟩ : S72) ) (fun _ hk => hk))); (try (have hx47_1 := hcc47 1 _ rfl)); (try (try simp only [show (k72).sz = 2 from rfl, Nat.mul_one, Nat.add_zero] at hx47_1)); (try (have hf47_1 := hfr47 1)); (try (try simp only [show (k72).sz = 2 from rfl, Nat.mul_one, Nat.add_zero] at hf47_1)); (try (clear hcl47 hcc47 hfr47 hM47)))); refine store_event (t := 3) (p := 61) (v := ?vo_w48) (w1 := (w45.setCell ⟨go43, ((ji39) : Int).toNat * 2 + 1, none⟩ (.int .i64 4294967295))) ?hg ?ho ?hn ?hr ?_; (case ho => rfl); (case hg => rfl); (case hn => rfl); (case hr => exact zz14); intro w48 hw; have hg : w45.grownBy w48 (some go43) := (by rw [hw]; exact HP47.2); have hp_ : Kd.R k72 72 w48 w.heap.size (fun _ => True) (.slice (some ⟨go43, 0, none⟩) x6_1.length co46) y231 := (by rw [hw, Ny231.out]; exact HP47.1); clear HP47; replace HO_5 := Aside0.mk (Kd.R_over' (v := (.slice (some ⟨go43, 0, none⟩) x6_1.length co46)) (zz13 HO_5) (Kd.R_typed HO_6.out) (by decide) hg); replace HO_6 := Aside0.mk hp_; replace HB := Aside0.mk (zz39 GB43 : Below w.heap.size w w48); clear hg hw hp_)); try go_wp2_with (first | (go_at_call 104; (with_reducible refine (spec_l3Lead.calls k1 _ _ l0 (rd t209 x7_1) t216 _ ?side1 ?side2 A12.out).mono ?_); (case side1 => exact zz38 HR0); (case side2 => exact HC0.out); rintro e w45 ⟨rfl, hb⟩; replace HO_5 := Aside0.mk (Kd.R_below (zz13 HO_5) hb); replace HO_6 := Aside0.mk (Kd.R_below (zz13 HO_6) hb); replace HB := Aside0.mk (below_step zz2 hb); clear hb; obtain ⟨Ao46, co46, eo46⟩ := Kd.R_slice HO_6.out; subst eo46; obtain ⟨⟨ad229, e229, hx229_0, hx229_1⟩, p229, q229⟩ := wi (at_T72 (Kd.R_reads' HO_6.out).2.2 (ji39)); cases e229; have p230 : 0 ≤ (x7_1 : Int) := of_decide_eq_true zz19; have q230 : x7_1 < (t209.length : Int) := of_decide_eq_true zz19; obtain ⟨ad230, e230, hx230_0⟩ := Kd.at_int (Kd.R_reads' HO_5.out).2.2 x7_1 p230 q230; obtain rfl : ad215 = ad230 := (by injection e230); replace p230 := eq_true p230; replace q230 := eq_true q230; have p43 : 0 ≤ ((ji39) : Int) := of_decide_eq_true zz19; have q43 : ((ji39) : Int) < ((x6_1.length : Int) : Int) := of_decide_eq_true zz19; obtain ⟨go43, co43, eo43, gb43, gl43, cl43, HG43⟩ := Kd.R_form HO_6.out (by omega); (first | cases eo43 | (injection eo43 with ea_ en_ ec_; (first | subst ea_ | (injection ea_ with ea_; subst ea_)); subst ec_; clear en_)); have GB43 := Aside0.mk gb43; have GG43 := Aside0.mk HG43; clear gb43 gl43 HG43; (first | simp only [add_plain] at hx229_0 | skip); (first | simp only [add_plain] at hx229_1 | skip); obtain ⟨ce43, hcl43, hM43, hcc43, hfr43⟩ := Kd.R_elem HO_6.out z72 ((ji39) : Int) p43 q43; obtain rfl := k72_openM hM43; have hx43_0 : w45.cell? ⟨go43, ((ji39) : Int).toNat * 2, none⟩ = some (.int .i64 ((rd_T72 x6_1 (ji39)).f0)) := hcc43 0 _ rfl; have hx43_1 : w45.cell? ⟨go43, ((ji39) : Int).toNat * 2 + 1, none⟩ = some (.int .i64 ((rd_T72 x6_1 (ji39)).f1)) := hcc43 1 _ rfl; have hf43_0 : w45.frozen? ⟨go43, ((ji39) : Int).toNat * 2, none⟩ = false := hfr43 0; have hf43_1 : w45.frozen? ⟨go43, ((ji39) : Int).toNat * 2 + 1, none⟩ = false := hfr43 1; clear hcl43 hcc43 hfr43 hM43; replace p43 := eq_true p43; replace q43 := eq_true q43; have HX47 := Aside0.mk (show Kd.R k72 72 w45 w.heap.size (fun _ => True) (.slice (some ⟨go43, 0, none⟩) x6_1.length co46) x6_1 from (zz13 HO_6)); obtain ⟨ce47, hcl47, hM47, hcc47, hfr47⟩ := Kd.R_elem HX47.out z72 ((ji39) : Int) (of_decide_eq_true zz19) (by have h_ : ((ji39) : Int) < ((x6_1.length : Int) : Int) := of_decide_eq_true zz19; first | exact h_ | (have e_ := (Kd.R_reads' HO_6.out).1; omega) | simpa using h_); obtain rfl := k72_openM hM47; have HP47 := Kd.R_seg HX47.out ((ji39) : Int) (of_decide_eq_true zz19) (by have h_ : ((ji39) : Int) < ((x6_1.length : Int) : Int) := of_decide_eq_true zz19; first | exact h_ | (have e_ := (Kd.R_reads' HO_6.out).1; omega) | simpa using h_) (seg := [.int .i64 4294967295]) (j := 1) hcl47 hcc47 (show 2 ≤ 2 from by decide) (x' := (⟨(rd_T72 x6_1 (ji39)).f0, 4294967295⟩ : S72)) (k72_mkM _ _ _ (⟨(rd_T72 x6_1 (ji39)).f0, 4294967295⟩ : S72) ) (fun _ hk => hk); have hx47_1 := hcc47 1 _ rfl; (try simp only [show (k72).sz = 2 from rfl, Nat.mul_one, Nat.add_zero] at hx47_1); have hf47_1 := hfr47 1; (try simp only [show (k72).sz = 2 from rfl, Nat.mul_one, Nat.add_zero] at hf47_1); clear hcl47 hcc47 hfr47 hM47) | ((with_reducible refine gate_store (t := 3) (p := 61) rfl ?_); (try (rw [drewN_self w45]; generalize hq_ : World.drewN w45 _ = w45; have n0_ := Aside0.mk (Kd.R_at hq_ HO_5.out); have n1_ := Aside0.mk (Kd.R_at hq_ HO_6.out); have n2_ := Aside0.mk (below_at hq_ HB.out); clear hq_ HO_5 HO_6 HB; have HO_5 := n0_; have HO_6 := n1_; have HB := n2_; clear n0_ n1_ n2_; (try (have HX47 := Aside0.mk (show Kd.R k72 72 w45 w.heap.size (fun _ => True) (.slice (some ⟨go43, 0, none⟩) x6_1.length co46) x6_1 from (zz13 HO_6)))); (try (obtain ⟨ce47, hcl47, hM47, hcc47, hfr47⟩ := Kd.R_elem HX47.out z72 ((ji39) : Int) (of_decide_eq_true zz19) (by have h_ : ((ji39) : Int) < ((x6_1.length : Int) : Int) := of_decide_eq_true zz19; first | exact h_ | (have e_ := (Kd.R_reads' HO_6.out).1; omega) | simpa using h_))); (try (obtain rfl := k72_openM hM47)); (try (have HP47 := Kd.R_seg HX47.out ((ji39) : Int) (of_decide_eq_true zz19) (by have h_ : ((ji39) : Int) < ((x6_1.length : Int) : Int) := of_decide_eq_true zz19; first | exact h_ | (have e_ := (Kd.R_reads' HO_6.out).1; omega) | simpa using h_) (seg := [.int .i64 4294967295]) (j := 1) hcl47 hcc47 (show 2 ≤ 2 from by decide) (x' := (⟨(rd_T72 x6_1 (ji39)).f0, 4294967295⟩ : S72)) (k72_mkM _ _ _ (⟨(rd_T72 x6_1 (ji39)).f0, 4294967295⟩ : S72) ) (fun _ hk => hk))); (try (have hx47_1 := hcc47 1 _ rfl)); (try (try simp only [show (k72).sz = 2 from rfl, Nat.mul_one, Nat.add_zero] at hx47_1)); (try (have hf47_1 := hfr47 1)); (try (try simp only [show (k72).sz = 2 from rfl, Nat.mul_one, Nat.add_zero] at hf47_1)); (try (clear hcl47 hcc47 hfr47 hM47)))); refine store_event (t := 3) (p := 61) (v := ?vo_w48) (w1 := (w45.setCell ⟨go43, ((ji39) : Int).toNat * 2 + 1, none⟩ (.int .i64 4294967295))) ?hg ?ho ?hn ?hr ?_; (case ho => rfl); (case hg => rfl); (case hn => rfl); (case hr => exact zz14); intro w48 hw; have hg : w45.grownBy w48 (some go43) := (by rw [hw]; exact HP47.2); have hp_ : Kd.R k72 72 w48 w.heap.size (fun _ => True) (.slice (some ⟨go43, 0, none⟩) x6_1.length co46) y231 := (by rw [hw, Ny231.out]; exact HP47.1); clear HP47; replace HO_5 := Aside0.mk (Kd.R_over' (v := (.slice (some ⟨go43, 0, none⟩) x6_1.length co46)) (zz13 HO_5) (Kd.R_typed HO_6.out) (by decide) hg); replace HO_6 := Aside0.mk hp_; replace HB := Aside0.mk (zz39 GB43 : Below w.heap.size w w48); clear hg hw hp_)))
        go_roundg k1
        case measure => have := HK1.out; omega
        case rel => exact ⟨(y231), (wrap64 (x7_1 + 1)), zz8, H', ⟨zz9 HK1⟩, ⟨zz13 HO_5⟩, ⟨zz13 HO_6⟩, ⟨zz2⟩⟩
       ·rw [if_neg c42] at H
        have c42b0 : ((wrap64 (((rd_T72 x6_1 (ji39)).f1) + 1)) == (rd t209 x7_1)) = false := beq_eq_false_iff_ne.mpr c42
        have c42b1 : ((wrap64 (((rd_T72 x6_1 (ji39)).f1) + 1)) != (rd t209 x7_1)) = true := bne_iff_ne.mpr c42
        replace H := gp H
        obtain ⟨c49, H⟩ := H
        have LMc49 := Aside0.mk c49
        clear c49
        obtain ⟨y233, hy233⟩ : ∃ y_ : List (S72), y_ = (x6_1 ++ [(⟨rd t209 x7_1, 4294967295⟩ : S72)]) := ⟨_, rfl⟩
        replace H : (spec_l3Spans.l0 k1 l0 a1 t209 y233 (wrap64 (x7_1 + 1))) = some r := by first | (rw [hy233]; with_reducible exact H) | (have H2_ := (Option.bind_some _ _).symm.trans H; rw [hy233]; with_reducible exact H2_) | (have H2_ := (Option.bind_some _ _).symm.trans H; with_reducible exact H2_) | with_reducible exact H | (rw [hy233]; exact H) | exact H
        have Ny233 := Aside0.mk hy233
        clear hy233
        have H' := Aside0.mk H
        clear H
        obtain ⟨Ao50, co50, eo50⟩ := Kd.R_slice HO_5.out
        subst eo50
        have p215 : 0 ≤ (x7_1 : Int) := da
        have q215 : x7_1 < (t209.length : Int) := da
        obtain ⟨ad215, e215, hx215_0⟩ := Kd.at_int (Kd.R_reads' HO_5.out).2.2 x7_1 p215 q215
        cases e215
        replace p215 := eq_true p215
        replace q215 := eq_true q215
        go_wp2_with (first | (go_at_call 104; (with_reducible refine (spec_l3Lead.calls k1 _ _ l0 (rd t209 x7_1) t216 _ ?side1 ?side2 A12.out).mono ?_); (case side1 => exact zz38 HR0); (case side2 => exact HC0.out); rintro e w51 ⟨rfl, hb⟩; replace HO_5 := Aside0.mk (Kd.R_below (zz13 HO_5) hb); replace HO_6 := Aside0.mk (Kd.R_below (zz13 HO_6) hb); replace HB := Aside0.mk (below_step zz2 hb); clear hb; obtain ⟨Ao52, co52, eo52⟩ := Kd.R_slice HO_6.out; subst eo52; obtain ⟨⟨ad229, e229, hx229_0, hx229_1⟩, p229, q229⟩ := wi (at_T72 (Kd.R_reads' HO_6.out).2.2 (ji39)); cases e229; have p230 : 0 ≤ (x7_1 : Int) := of_decide_eq_true zz19; have q230 : x7_1 < (t209.length : Int) := of_decide_eq_true zz19; obtain ⟨ad230, e230, hx230_0⟩ := Kd.at_int (Kd.R_reads' HO_5.out).2.2 x7_1 p230 q230; obtain rfl : ad215 = ad230 := (by injection e230); replace p230 := eq_true p230; replace q230 := eq_true q230; have p232 : 0 ≤ (x7_1 : Int) := of_decide_eq_true zz19; have q232 : x7_1 < (t209.length : Int) := of_decide_eq_true zz19; obtain ⟨ad232, e232, hx232_0⟩ := Kd.at_int (Kd.R_reads' HO_5.out).2.2 x7_1 p232 q232; obtain rfl : ad215 = ad232 := (by injection e232); replace p232 := eq_true p232; replace q232 := eq_true q232) | ((with_reducible refine gate_builtin (b := .append) (xs := #[.tmp 62, .tmp 69]) rfl ?_); at_builtin; refine Kd.R_append k72 (w0 := w) w.heap.size rfl (.tmp 62) (.tmp 69) 73 72 (.agg #[(.int .i64 0), (.int .i64 0)]) 16 rfl Try.underlying73 info72 rfl (by decide) (by omega) (.slice (some ad229) x6_1.length co52) x6_1 (⟨rd t209 x7_1, 4294967295⟩ : S72) [.int .i64 (rd t209 x7_1), .int .i64 4294967295] (fun _ => True) (fun _ => False) rfl rfl ?aP (fun _ hk => hk.elim) ?aF ?aO ?aB ?aS ?aL ?_; (case aP => exact k72_mkM _ _ _ (⟨rd t209 x7_1, 4294967295⟩ : S72)); (case aB => exact zz2); (case aF => exact zz40); (case aO => exact zz13 HO_6); (case aS => exact zz23); (case aL => exact zz9 LMc49); intro v234 w53 ho hb hg hat; rw [← Ny233.out] at ho; replace HO_5 := Aside0.mk (Kd.R_over' (zz13 HO_5) (Kd.R_typed (zz13 HO_6)) (by decide) hg); replace HB := Aside0.mk hb; have HO235 := Aside0.mk ho; clear HO_6 ho hb hg hat))
        repeat (go_quiet (first | (go_at_call 104; (with_reducible refine (spec_l3Lead.calls k1 _ _ l0 (rd t209 x7_1) t216 _ ?side1 ?side2 A12.out).mono ?_); (case side1 => exact zz38 HR0); (case side2 => exact HC0.out); rintro e w51 ⟨rfl, hb⟩; replace HO_5 := Aside0.mk (Kd.R_below (zz13 HO_5) hb); replace HO_6 := Aside0.mk (Kd.R_below (zz13 HO_6) hb); replace HB := Aside0.mk (below_step zz2 hb); clear hb; obtain ⟨Ao52, co52, eo52⟩ := Kd.R_slice HO_6.out; subst eo52; obtain ⟨⟨ad229, e229, hx229_0, hx229_1⟩, p229, q229⟩ := wi (at_T72 (Kd.R_reads' HO_6.out).2.2 (ji39)); cases e229; have p230 : 0 ≤ (x7_1 : Int) := of_decide_eq_true zz19; have q230 : x7_1 < (t209.length : Int) := of_decide_eq_true zz19; obtain ⟨ad230, e230, hx230_0⟩ := Kd.at_int (Kd.R_reads' HO_5.out).2.2 x7_1 p230 q230; obtain rfl : ad215 = ad230 := (by injection e230); replace p230 := eq_true p230; replace q230 := eq_true q230; have p232 : 0 ≤ (x7_1 : Int) := of_decide_eq_true zz19; have q232 : x7_1 < (t209.length : Int) := of_decide_eq_true zz19; obtain ⟨ad232, e232, hx232_0⟩ := Kd.at_int (Kd.R_reads' HO_5.out).2.2 x7_1 p232 q232; obtain rfl : ad215 = ad232 := (by injection e232); replace p232 := eq_true p232; replace q232 := eq_true q232) | ((with_reducible refine gate_builtin (b := .append) (xs := #[.tmp 62, .tmp 69]) rfl ?_); at_builtin; refine Kd.R_append k72 (w0 := w) w.heap.size rfl (.tmp 62) (.tmp 69) 73 72 (.agg #[(.int .i64 0), (.int .i64 0)]) 16 rfl Try.underlying73 info72 rfl (by decide) (by omega) (.slice (some ad229) x6_1.length co52) x6_1 (⟨rd t209 x7_1, 4294967295⟩ : S72) [.int .i64 (rd t209 x7_1), .int .i64 4294967295] (fun _ => True) (fun _ => False) rfl rfl ?aP (fun _ hk => hk.elim) ?aF ?aO ?aB ?aS ?aL ?_; (case aP => exact k72_mkM _ _ _ (⟨rd t209 x7_1, 4294967295⟩ : S72)); (case aB => exact zz2); (case aF => exact zz40); (case aO => exact zz13 HO_6); (case aS => exact zz23); (case aL => exact zz9 LMc49); intro v234 w53 ho hb hg hat; rw [← Ny233.out] at ho; replace HO_5 := Aside0.mk (Kd.R_over' (zz13 HO_5) (Kd.R_typed (zz13 HO_6)) (by decide) hg); replace HB := Aside0.mk hb; have HO235 := Aside0.mk ho; clear HO_6 ho hb hg hat)); try go_wp2_with (first | (go_at_call 104; (with_reducible refine (spec_l3Lead.calls k1 _ _ l0 (rd t209 x7_1) t216 _ ?side1 ?side2 A12.out).mono ?_); (case side1 => exact zz38 HR0); (case side2 => exact HC0.out); rintro e w51 ⟨rfl, hb⟩; replace HO_5 := Aside0.mk (Kd.R_below (zz13 HO_5) hb); replace HO_6 := Aside0.mk (Kd.R_below (zz13 HO_6) hb); replace HB := Aside0.mk (below_step zz2 hb); clear hb; obtain ⟨Ao52, co52, eo52⟩ := Kd.R_slice HO_6.out; subst eo52; obtain ⟨⟨ad229, e229, hx229_0, hx229_1⟩, p229, q229⟩ := wi (at_T72 (Kd.R_reads' HO_6.out).2.2 (ji39)); cases e229; have p230 : 0 ≤ (x7_1 : Int) := of_decide_eq_true zz19; have q230 : x7_1 < (t209.length : Int) := of_decide_eq_true zz19; obtain ⟨ad230, e230, hx230_0⟩ := Kd.at_int (Kd.R_reads' HO_5.out).2.2 x7_1 p230 q230; obtain rfl : ad215 = ad230 := (by injection e230); replace p230 := eq_true p230; replace q230 := eq_true q230; have p232 : 0 ≤ (x7_1 : Int) := of_decide_eq_true zz19; have q232 : x7_1 < (t209.length : Int) := of_decide_eq_true zz19; obtain ⟨ad232, e232, hx232_0⟩ := Kd.at_int (Kd.R_reads' HO_5.out).2.2 x7_1 p232 q232; obtain rfl : ad215 = ad232 := (by injection e232); replace p232 := eq_true p232; replace q232 := eq_true q232) | ((with_reducible refine gate_builtin (b := .append) (xs := #[.tmp 62, .tmp 69]) rfl ?_); at_builtin; refine Kd.R_append k72 (w0 := w) w.heap.size rfl (.tmp 62) (.tmp 69) 73 72 (.agg #[(.int .i64 0), (.int .i64 0)]) 16 rfl Try.underlying73 info72 rfl (by decide) (by omega) (.slice (some ad229) x6_1.length co52) x6_1 (⟨rd t209 x7_1, 4294967295⟩ : S72) [.int .i64 (rd t209 x7_1), .int .i64 4294967295] (fun _ => True) (fun _ => False) rfl rfl ?aP (fun _ hk => hk.elim) ?aF ?aO ?aB ?aS ?aL ?_; (case aP => exact k72_mkM _ _ _ (⟨rd t209 x7_1, 4294967295⟩ : S72)); (case aB => exact zz2); (case aF => exact zz40); (case aO => exact zz13 HO_6); (case aS => exact zz23); (case aL => exact zz9 LMc49); intro v234 w53 ho hb hg hat; rw [← Ny233.out] at ho; replace HO_5 := Aside0.mk (Kd.R_over' (zz13 HO_5) (Kd.R_typed (zz13 HO_6)) (by decide) hg); replace HB := Aside0.mk hb; have HO235 := Aside0.mk ho; clear HO_6 ho hb hg hat)))
        go_roundg k1
        case measure => have := HK1.out; omega
        case rel => exact ⟨(y233), (wrap64 (x7_1 + 1)), zz8, H', ⟨zz9 HK1⟩, ⟨zz13 HO_5⟩, ⟨zz13 HO235⟩, ⟨zz2⟩⟩
      ·replace H := gp H
       obtain ⟨c54, H⟩ := H
       have LMc54 := Aside0.mk c54
       clear c54
       obtain ⟨y237, hy237⟩ : ∃ y_ : List (S72), y_ = (x6_1 ++ [(⟨rd t209 x7_1, 4294967295⟩ : S72)]) := ⟨_, rfl⟩
       replace H : (spec_l3Spans.l0 k1 l0 a1 t209 y237 (wrap64 (x7_1 + 1))) = some r := by first | (rw [hy237]; with_reducible exact H) | (have H2_ := (Option.bind_some _ _).symm.trans H; rw [hy237]; with_reducible exact H2_) | (have H2_ := (Option.bind_some _ _).symm.trans H; with_reducible exact H2_) | with_reducible exact H | (rw [hy237]; exact H) | exact H
       have Ny237 := Aside0.mk hy237
       clear hy237
       have H' := Aside0.mk H
       clear H
       obtain ⟨Ao55, co55, eo55⟩ := Kd.R_slice HO_5.out
       subst eo55
       have p215 : 0 ≤ (x7_1 : Int) := da
       have q215 : x7_1 < (t209.length : Int) := da
       obtain ⟨ad215, e215, hx215_0⟩ := Kd.at_int (Kd.R_reads' HO_5.out).2.2 x7_1 p215 q215
       cases e215
       replace p215 := eq_true p215
       replace q215 := eq_true q215
       go_wp2_with (first | (go_at_call 104; (with_reducible refine (spec_l3Lead.calls k1 _ _ l0 (rd t209 x7_1) t216 _ ?side1 ?side2 A12.out).mono ?_); (case side1 => exact zz38 HR0); (case side2 => exact HC0.out); rintro e w56 ⟨rfl, hb⟩; replace HO_5 := Aside0.mk (Kd.R_below (zz13 HO_5) hb); replace HO_6 := Aside0.mk (Kd.R_below (zz13 HO_6) hb); replace HB := Aside0.mk (below_step zz2 hb); clear hb; obtain ⟨Ao57, co57, eo57⟩ := Kd.R_slice HO_6.out; subst eo57; have p236 : 0 ≤ (x7_1 : Int) := of_decide_eq_true zz19; have q236 : x7_1 < (t209.length : Int) := of_decide_eq_true zz19; obtain ⟨ad236, e236, hx236_0⟩ := Kd.at_int (Kd.R_reads' HO_5.out).2.2 x7_1 p236 q236; obtain rfl : ad215 = ad236 := (by injection e236); replace p236 := eq_true p236; replace q236 := eq_true q236) | ((with_reducible refine gate_builtin (b := .append) (xs := #[.tmp 62, .tmp 69]) rfl ?_); at_builtin; refine Kd.R_append k72 (w0 := w) w.heap.size rfl (.tmp 62) (.tmp 69) 73 72 (.agg #[(.int .i64 0), (.int .i64 0)]) 16 rfl Try.underlying73 info72 rfl (by decide) (by omega) (.slice Ao57 x6_1.length co57) x6_1 (⟨rd t209 x7_1, 4294967295⟩ : S72) [.int .i64 (rd t209 x7_1), .int .i64 4294967295] (fun _ => True) (fun _ => False) rfl rfl ?aP (fun _ hk => hk.elim) ?aF ?aO ?aB ?aS ?aL ?_; (case aP => exact k72_mkM _ _ _ (⟨rd t209 x7_1, 4294967295⟩ : S72)); (case aB => exact zz2); (case aF => exact zz40); (case aO => exact zz13 HO_6); (case aS => exact zz23); (case aL => exact zz9 LMc54); intro v238 w58 ho hb hg hat; rw [← Ny237.out] at ho; replace HO_5 := Aside0.mk (Kd.R_over' (zz13 HO_5) (Kd.R_typed (zz13 HO_6)) (by decide) hg); replace HB := Aside0.mk hb; have HO239 := Aside0.mk ho; clear HO_6 ho hb hg hat))
       repeat (go_quiet (first | (go_at_call 104; (with_reducible refine (spec_l3Lead.calls k1 _ _ l0 (rd t209 x7_1) t216 _ ?side1 ?side2 A12.out).mono ?_); (case side1 => exact zz38 HR0); (case side2 => exact HC0.out); rintro e w56 ⟨rfl, hb⟩; replace HO_5 := Aside0.mk (Kd.R_below (zz13 HO_5) hb); replace HO_6 := Aside0.mk (Kd.R_below (zz13 HO_6) hb); replace HB := Aside0.mk (below_step zz2 hb); clear hb; obtain ⟨Ao57, co57, eo57⟩ := Kd.R_slice HO_6.out; subst eo57; have p236 : 0 ≤ (x7_1 : Int) := of_decide_eq_true zz19; have q236 : x7_1 < (t209.length : Int) := of_decide_eq_true zz19; obtain ⟨ad236, e236, hx236_0⟩ := Kd.at_int (Kd.R_reads' HO_5.out).2.2 x7_1 p236 q236; obtain rfl : ad215 = ad236 := (by injection e236); replace p236 := eq_true p236; replace q236 := eq_true q236) | ((with_reducible refine gate_builtin (b := .append) (xs := #[.tmp 62, .tmp 69]) rfl ?_); at_builtin; refine Kd.R_append k72 (w0 := w) w.heap.size rfl (.tmp 62) (.tmp 69) 73 72 (.agg #[(.int .i64 0), (.int .i64 0)]) 16 rfl Try.underlying73 info72 rfl (by decide) (by omega) (.slice Ao57 x6_1.length co57) x6_1 (⟨rd t209 x7_1, 4294967295⟩ : S72) [.int .i64 (rd t209 x7_1), .int .i64 4294967295] (fun _ => True) (fun _ => False) rfl rfl ?aP (fun _ hk => hk.elim) ?aF ?aO ?aB ?aS ?aL ?_; (case aP => exact k72_mkM _ _ _ (⟨rd t209 x7_1, 4294967295⟩ : S72)); (case aB => exact zz2); (case aF => exact zz40); (case aO => exact zz13 HO_6); (case aS => exact zz23); (case aL => exact zz9 LMc54); intro v238 w58 ho hb hg hat; rw [← Ny237.out] at ho; replace HO_5 := Aside0.mk (Kd.R_over' (zz13 HO_5) (Kd.R_typed (zz13 HO_6)) (by decide) hg); replace HB := Aside0.mk hb; have HO239 := Aside0.mk ho; clear HO_6 ho hb hg hat)); try go_wp2_with (first | (go_at_call 104; (with_reducible refine (spec_l3Lead.calls k1 _ _ l0 (rd t209 x7_1) t216 _ ?side1 ?side2 A12.out).mono ?_); (case side1 => exact zz38 HR0); (case side2 => exact HC0.out); rintro e w56 ⟨rfl, hb⟩; replace HO_5 := Aside0.mk (Kd.R_below (zz13 HO_5) hb); replace HO_6 := Aside0.mk (Kd.R_below (zz13 HO_6) hb); replace HB := Aside0.mk (below_step zz2 hb); clear hb; obtain ⟨Ao57, co57, eo57⟩ := Kd.R_slice HO_6.out; subst eo57; have p236 : 0 ≤ (x7_1 : Int) := of_decide_eq_true zz19; have q236 : x7_1 < (t209.length : Int) := of_decide_eq_true zz19; obtain ⟨ad236, e236, hx236_0⟩ := Kd.at_int (Kd.R_reads' HO_5.out).2.2 x7_1 p236 q236; obtain rfl : ad215 = ad236 := (by injection e236); replace p236 := eq_true p236; replace q236 := eq_true q236) | ((with_reducible refine gate_builtin (b := .append) (xs := #[.tmp 62, .tmp 69]) rfl ?_); at_builtin; refine Kd.R_append k72 (w0 := w) w.heap.size rfl (.tmp 62) (.tmp 69) 73 72 (.agg #[(.int .i64 0), (.int .i64 0)]) 16 rfl Try.underlying73 info72 rfl (by decide) (by omega) (.slice Ao57 x6_1.length co57) x6_1 (⟨rd t209 x7_1, 4294967295⟩ : S72) [.int .i64 (rd t209 x7_1), .int .i64 4294967295] (fun _ => True) (fun _ => False) rfl rfl ?aP (fun _ hk => hk.elim) ?aF ?aO ?aB ?aS ?aL ?_; (case aP => exact k72_mkM _ _ _ (⟨rd t209 x7_1, 4294967295⟩ : S72)); (case aB => exact zz2); (case aF => exact zz40); (case aO => exact zz13 HO_6); (case aS => exact zz23); (case aL => exact zz9 LMc54); intro v238 w58 ho hb hg hat; rw [← Ny237.out] at ho; replace HO_5 := Aside0.mk (Kd.R_over' (zz13 HO_5) (Kd.R_typed (zz13 HO_6)) (by decide) hg); replace HB := Aside0.mk hb; have HO239 := Aside0.mk ho; clear HO_6 ho hb hg hat)))
       go_roundg k1
       case measure => have := HK1.out; omega
       case rel => exact ⟨(y237), (wrap64 (x7_1 + 1)), zz8, H', ⟨zz9 HK1⟩, ⟨zz13 HO_5⟩, ⟨zz13 HO239⟩, ⟨zz2⟩⟩
    ·rw [if_neg c13] at H
     have c13b0 : (t216 == a1) = false := beq_eq_false_iff_ne.mpr c13
     have c13b1 : (t216 != a1) = true := bne_iff_ne.mpr c13
     have H' := Aside0.mk H
     clear H
     obtain ⟨Ao59, co59, eo59⟩ := Kd.R_slice HO_5.out
     subst eo59
     have p215 : 0 ≤ (x7_1 : Int) := da
     have q215 : x7_1 < (t209.length : Int) := da
     obtain ⟨ad215, e215, hx215_0⟩ := Kd.at_int (Kd.R_reads' HO_5.out).2.2 x7_1 p215 q215
     cases e215
     replace p215 := eq_true p215
     replace q215 := eq_true q215
     go_wp2_with (first | (go_at_call 104; (with_reducible refine (spec_l3Lead.calls k1 _ _ l0 (rd t209 x7_1) t216 _ ?side1 ?side2 A12.out).mono ?_); (case side1 => exact zz38 HR0); (case side2 => exact HC0.out); rintro e w60 ⟨rfl, hb⟩; replace HO_5 := Aside0.mk (Kd.R_below (zz13 HO_5) hb); replace HO_6 := Aside0.mk (Kd.R_below (zz13 HO_6) hb); replace HB := Aside0.mk (below_step zz2 hb); clear hb))
     repeat (go_quiet (first | (go_at_call 104; (with_reducible refine (spec_l3Lead.calls k1 _ _ l0 (rd t209 x7_1) t216 _ ?side1 ?side2 A12.out).mono ?_); (case side1 => exact zz38 HR0); (case side2 => exact HC0.out); rintro e w60 ⟨rfl, hb⟩; replace HO_5 := Aside0.mk (Kd.R_below (zz13 HO_5) hb); replace HO_6 := Aside0.mk (Kd.R_below (zz13 HO_6) hb); replace HB := Aside0.mk (below_step zz2 hb); clear hb)); try go_wp2_with (first | (go_at_call 104; (with_reducible refine (spec_l3Lead.calls k1 _ _ l0 (rd t209 x7_1) t216 _ ?side1 ?side2 A12.out).mono ?_); (case side1 => exact zz38 HR0); (case side2 => exact HC0.out); rintro e w60 ⟨rfl, hb⟩; replace HO_5 := Aside0.mk (Kd.R_below (zz13 HO_5) hb); replace HO_6 := Aside0.mk (Kd.R_below (zz13 HO_6) hb); replace HB := Aside0.mk (below_step zz2 hb); clear hb)))
     go_roundg k1
     case measure => have := HK1.out; omega
     case rel => exact ⟨(x6_1), (wrap64 (x7_1 + 1)), zz8, H', ⟨zz9 HK1⟩, ⟨zz13 HO_5⟩, ⟨zz13 HO_6⟩, ⟨zz2⟩⟩
   ·obtain rfl := Option.some.inj H
    obtain ⟨Ao61, co61, eo61⟩ := Kd.R_slice HO_5.out
    subst eo61
    go_wp2
    repeat (go_quiet (fail); try go_wp2)
    go_ret
    exact ⟨_, zz6, zz13 HO_6, zz2⟩

/-! ### spec_WaysTo: function 35 -/
def spec_WaysTo.j0 : Nat → List (S95) → Int → Bool → Option ((List (S40)) × Bool)
 | 0, _, _, _ => none
 | k + 1, x0, x1, x13 => if x13 = true then (some ((([] : List (S40))), false)) else ((spec_l3Spans.f k x0 x1).bind fun t245 => ((spec_l2Cover.f k t245).bind fun t248 => ((spec_l2Room.f t248).bind fun bt251 => (some (bt251.1, bt251.2)))))
def spec_WaysTo.f (k : Nat) (l0 : List (S95)) (a1 : Int) : Option ((List (S40)) × Bool) := (spec_WaysOk.f k l0).bind fun t240 => (if t240 = true then ((spec_l1In.f a1 (-1) 99).bind fun t241 => (spec_WaysTo.j0 k l0 a1 (!t241))) else (spec_WaysTo.j0 k l0 a1 true))
theorem spec_WaysTo.mono_l : ∀ k, (∀ y0 y1 y2, LeO (spec_WaysTo.j0 k y0 y1 y2) (spec_WaysTo.j0 (k + 1) y0 y1 y2))
 | 0 => fun _ _ _ r h => by simp [spec_WaysTo.j0] at h
 | k + 1 => by
  have ih0 := spec_WaysTo.mono_l k
  ·intro y0 y1 y2
   unfold spec_WaysTo.j0
   repeat' first
   | (with_reducible exact ih0 _ _ _)
   | (with_reducible exact spec_WaysOk.mono _ _)
   | (with_reducible exact spec_l2Cover.mono _ _)
   | (with_reducible exact spec_l3Spans.mono _ _ _)
   | (with_reducible exact LeO.refl _)
   | (with_reducible exact LeO.none _)
   | (with_reducible refine LeO.ite ?_ ?_)
   | (with_reducible refine LeO.bind ?_ (fun _ => ?_))
   | exact ih0 _ _ _
   | exact spec_WaysOk.mono _ _
   | exact spec_l2Cover.mono _ _
   | exact spec_l3Spans.mono _ _ _
   | exact LeO.none _
   | refine LeO.ite ?_ ?_
   | refine LeO.bind ?_ (fun _ => ?_)
theorem spec_WaysTo.mono : ∀ a0 a1 k, LeO (spec_WaysTo.f k a0 a1) (spec_WaysTo.f (k + 1) a0 a1) := by
 intro a0 a1 k
 have ih0 := spec_WaysTo.mono_l k
 unfold spec_WaysTo.f
 repeat' first
   | (with_reducible exact ih0 _ _ _)
   | (with_reducible exact spec_WaysOk.mono _ _)
   | (with_reducible exact spec_l2Cover.mono _ _)
   | (with_reducible exact spec_l3Spans.mono _ _ _)
   | (with_reducible exact LeO.refl _)
   | (with_reducible exact LeO.none _)
   | (with_reducible refine LeO.ite ?_ ?_)
   | (with_reducible refine LeO.bind ?_ (fun _ => ?_))
   | exact ih0 _ _ _
   | exact spec_WaysOk.mono _ _
   | exact spec_l2Cover.mono _ _
   | exact spec_l3Spans.mono _ _ _
   | exact LeO.none _
   | refine LeO.ite ?_ ?_
   | refine LeO.bind ?_ (fun _ => ?_)
set_option maxHeartbeats 8000000 in
set_option maxRecDepth 100000 in
theorem spec_WaysTo.calls (k : Nat) (A0 : Option Addr) (c0 : Nat) (l0 : List (S95)) (a1 : Int) (r1 : List (S40)) (r2 : Bool) (w : World) (hr0 : Kd.C k95 w A0 l0.length l0) (hc0 : l0.length ≤ c0) (h : spec_WaysTo.f k l0 a1 = some (r1, r2)) :
  Calls Try.prog 35 #[.slice A0 l0.length c0, .int .i64 a1] w fun e w' => ∃ v0_ : Value, e = .returned (.tuple #[v0_, .bool r2]) ∧ Kd.R k40 40 w' w.heap.size (fun _ => True) v0_ r1 ∧ Below w.heap.size w w' := by
 have HR0 := Aside0.mk hr0
 have HC0 := Aside0.mk hc0
 clear hr0 hc0
 have HB := Aside0.mk (Below.refl w.heap.size w)
 have H : ((spec_WaysOk.f k l0).bind fun t240 => (if t240 = true then ((spec_l1In.f a1 (-1) 99).bind fun t241 => (spec_WaysTo.j0 k l0 a1 (!t241))) else (spec_WaysTo.j0 k l0 a1 true))) = some (r1, r2) := h
 clear h
 have HC3 := Aside0.mk H
 clear H
 go_enter Try.func35, Try.ntmps35
 go_upto_region 1 with (fail)
 go_cut [13] (fun v13 wc => ∃ (kq : Nat) (x13_2 : Bool), v13 = .bool x13_2 ∧ Aside0 (spec_WaysTo.j0 kq l0 a1 x13_2 = some (r1, r2)) ∧ Aside0 (kq ≤ k) ∧ Aside0 (Below w.heap.size w wc))
 case first =>
  have H := HC3.out
  clear HC3
  replace H := bd H
  obtain ⟨t240, A4, H⟩ := H
  replace H : (if t240 = true then ((spec_l1In.f a1 (-1) 99).bind fun t241 => (spec_WaysTo.j0 k l0 a1 (!t241))) else (spec_WaysTo.j0 k l0 a1 true)) = some (r1, r2) := H
  by_cases c5 : t240 = true
  ·subst c5
   have H1 : ((spec_l1In.f a1 (-1) 99).bind fun t241 => (spec_WaysTo.j0 k l0 a1 (!t241))) = some (r1, r2) := by rw [if_pos rfl] at H; exact H
   clear H
   have H := H1
   clear H1
   replace H := bd H
   obtain ⟨t241, A6, H⟩ := H
   replace H : (spec_WaysTo.j0 k l0 a1 (!t241)) = some (r1, r2) := H
   have H' := Aside0.mk H
   clear H
   go_wp2_with (first | (refine gc (some 7) Try.func79 #[.slice A0 l0.length c0] ?_; (with_reducible refine (spec_WaysOk.calls k _ _ l0 true _ ?side1 ?side2 A4.out).mono ?_); (case side1 => exact zz38 HR0); (case side2 => exact HC0.out); rintro e w7 ⟨rfl, hb⟩; refine ⟨_, rfl, ?_⟩; replace HB := Aside0.mk (below_step zz2 hb); clear hb) | (go_at_call 58; (with_reducible refine (spec_l1In.calls a1 (-1) 99 t241 _ A6.out).mono ?_); rintro e w' ⟨rfl, ⟨nd, rfl⟩⟩))
   go_meet
   case rel => exact ⟨_, (!t241), zz8, H', ⟨zz41⟩, ⟨zz2⟩⟩
  ·replace c5 := Bool.eq_false_iff.mpr c5
   subst c5
   have H1 : (spec_WaysTo.j0 k l0 a1 true) = some (r1, r2) := by rw [if_neg (show ¬ (false = true) by decide)] at H; exact H
   clear H
   have H := H1
   clear H1
   have H' := Aside0.mk H
   clear H
   go_wp2_with (first | (refine gc (some 7) Try.func79 #[.slice A0 l0.length c0] ?_; (with_reducible refine (spec_WaysOk.calls k _ _ l0 false _ ?side1 ?side2 A4.out).mono ?_); (case side1 => exact zz38 HR0); (case side2 => exact HC0.out); rintro e w8 ⟨rfl, hb⟩; refine ⟨_, rfl, ?_⟩; replace HB := Aside0.mk (below_step zz2 hb); clear hb))
   go_meet
   case rel => exact ⟨_, (true), zz8, H', ⟨zz41⟩, ⟨zz2⟩⟩
 case rest =>
  clear HC3
  try clear p2
  try clear c3
  try clear c5
  try clear c7
  obtain ⟨kq, x13_2, rfl, HA, HJ2, HB⟩ := hcut
  cases kq with
  | zero => exact absurd HA.out (by simp [spec_WaysTo.j0])
  | succ kj2 =>
   have H := HA.out
   clear HA
   simp only [spec_WaysTo.j0] at H
   by_cases c9 : x13_2 = true
   ·subst c9
    have H1 : (some ((([] : List (S40))), false)) = some (r1, r2) := by rw [if_pos rfl] at H; exact H
    clear H
    have H := H1
    clear H1
    obtain ⟨y242, hy242⟩ : ∃ y_ : List (S40), y_ = (([] : List (S40))) := ⟨_, rfl⟩
    replace H : (some (y242, false)) = some (r1, r2) := by first | (rw [hy242]; with_reducible exact H) | (have H2_ := (Option.bind_some _ _).symm.trans H; rw [hy242]; with_reducible exact H2_) | (have H2_ := (Option.bind_some _ _).symm.trans H; with_reducible exact H2_) | with_reducible exact H | (rw [hy242]; exact H) | exact H
    have Ny242 := Aside0.mk hy242
    clear hy242
    simp only [Option.some.injEq, Prod.mk.injEq] at H
    obtain ⟨rfl, rfl⟩ := H
    go_wp2_with (first | (refine gt 14 ?_; refine rl k40 40 14 ([] : List (S40)) [] ?hp ?_; (case hp => exact zz12); intro v243 w10 ho11 hb hg_ hnew_; clear hg_ hnew_; (first | rw [← Ny242.out] at ho11 | (simp only [Int.reduceToNat] at ho11; rw [← Ny242.out] at ho11)); have HO244 := Aside0.mk (Kd.R_lower ho11 (below_size zz2)); replace HB := Aside0.mk (below_step zz2 hb); clear hb ho11))
    go_ret2
    exact ⟨_, zz6, zz13 HO244, zz2⟩
   ·replace c9 := Bool.eq_false_iff.mpr c9
    subst c9
    have H1 : ((spec_l3Spans.f kj2 l0 a1).bind fun t245 => ((spec_l2Cover.f kj2 t245).bind fun t248 => ((spec_l2Room.f t248).bind fun bt251 => (some (bt251.1, bt251.2))))) = some (r1, r2) := by rw [if_neg (show ¬ (false = true) by decide)] at H; exact H
    clear H
    have H := H1
    clear H1
    replace H := bd H
    obtain ⟨t245, A12, H⟩ := H
    replace H : ((spec_l2Cover.f kj2 t245).bind fun t248 => ((spec_l2Room.f t248).bind fun bt251 => (some (bt251.1, bt251.2)))) = some (r1, r2) := H
    replace H := bd H
    obtain ⟨t248, A13, H⟩ := H
    replace H : ((spec_l2Room.f t248).bind fun bt251 => (some (bt251.1, bt251.2))) = some (r1, r2) := H
    replace H := bd H
    obtain ⟨⟨t251, t254⟩, A14, H⟩ := H
    replace H : (some (t251, t254)) = some (r1, r2) := H
    simp only [Option.some.injEq, Prod.mk.injEq] at H
    obtain ⟨rfl, rfl⟩ := H
    go_wp2_with (first | (refine gc (some 17) Try.func80 #[.slice A0 l0.length c0, .int .i64 a1] ?_; (with_reducible refine (spec_l3Spans.calls kj2 _ _ l0 a1 t245 _ ?side1 ?side2 A12.out).mono ?_); (case side1 => exact zz38 HR0); (case side2 => exact HC0.out); rintro e w15 ⟨v246, rfl, ho0, hb⟩; refine ⟨_, rfl, ?_⟩; have HO247 := Aside0.mk (Kd.R_lower ho0 (below_size zz2)); replace HB := Aside0.mk (below_step zz2 hb); clear hb ho0; obtain ⟨Ao16, co16, eo16⟩ := Kd.R_slice HO247.out; subst eo16) | (refine gc (some 18) Try.func49 #[.slice Ao16 t245.length co16] ?_; (with_reducible refine (spec_l2Cover.calls kj2 _ _ t245 t248 _ ?side1 ?side2 A13.out).mono ?_); (case side1 => exact zz33 HO247); (case side2 => exact zz42 HO247); rintro e w17 ⟨v249, rfl, ho0, hb⟩; refine ⟨_, rfl, ?_⟩; replace HO247 := Aside0.mk (Kd.R_below (zz13 HO247) hb); have HO250 := Aside0.mk (Kd.R_lower ho0 (below_size zz2)); replace HB := Aside0.mk (below_step zz2 hb); clear hb ho0; obtain ⟨Ao18, co18, eo18⟩ := Kd.R_slice HO250.out; subst eo18) | (refine gc (some 19) Try.func66 #[.slice Ao18 t248.length co18] ?_; (with_reducible refine (spec_l2Room.calls (fun k_ => some k_ = (.slice Ao18 t248.length co18 : Value).ownBlock) (.slice Ao18 t248.length co18) t248 t251 t254 w _ ?side1 ?side2 A14.out).mono ?_); (case side1 => exact zz2); (case side2 => exact zz36 HO250); rintro e w19 ⟨v252, rfl, ho0, hb, hkp⟩; refine ⟨_, rfl, ?_⟩; replace HO247 := Aside0.mk (Kd.R_mono (ok' := fun k_ => True) (Kd.R_keptB ((Kd.R_apart' HO247.out (Kd.R_typed HO250.out) (by decide))) hkp (fun k_ hk_ hs_ => (hk_.2) hs_)) (fun k_ hk_ => trivial)); have HO253 := Aside0.mk (Kd.R_mono (ok' := fun k_ => True) ho0 (fun k_ hk_ => trivial)); replace HB := Aside0.mk hb; clear HO250 hb hkp ho0))
    go_ret2
    exact ⟨_, zz6, zz13 HO253, zz2⟩

/-! ### laws_toBlock: function 60 -/
def laws_toBlock.f (a0_0 : Int) (a0_1 : Int) : Option (Int × Int) := some (a0_0, a0_1)
set_option maxHeartbeats 8000000 in
set_option maxRecDepth 100000 in
theorem laws_toBlock.calls (a0_0 : Int) (a0_1 : Int) (r1 : Int) (r2 : Int) (w : World) (h : laws_toBlock.f a0_0 a0_1 = some (r1, r2)) :
  Calls Try.prog 60 #[.agg #[.int .i64 a0_0, .int .i64 a0_1]] w fun e w' => e = .returned (.agg #[.int .i64 r1, .int .i64 r2]) ∧ Below w.heap.size w w' := by
 have hu82 := Try.underlying82
 have hu40 := Try.underlying40
 have HB := Aside0.mk (Below.refl w.heap.size w)
 have H : (some (a0_0, a0_1)) = some (r1, r2) := h
 clear h
 simp only [Option.some.injEq, Prod.mk.injEq] at H
 obtain ⟨rfl, rfl⟩ := H
 go_enter Try.func60, Try.ntmps60
 go_wp2_with (first | (refine be 1 #[.int .i64 a0_0, .int .i64 a0_1] 82 ?_; intro gb255 hg w2 hbox hb; have BK255 := Aside0.mk hbox; have GW255 := Aside0.mk (zz1 : w.heap.size ≤ gb255); have GE255 := Aside0.mk (zz1 : w.heap.size ≤ gb255); replace HB := Aside0.mk (below_step zz2 hb); clear hb hbox hg) | (refine be 2 #[.int .i64 0, .int .i64 0] 40 ?_; intro gb256 hg w3 hbox hb; have BK256 := Aside0.mk hbox; have GW256 := Aside0.mk (zz3 GE255 : w.heap.size ≤ gb256); have GE256 := Aside0.mk (zz3 GE255 : w.heap.size ≤ gb256); replace HB := Aside0.mk (below_step (zz4 GE255) hb); have NB255_256 := Aside0.mk (by rw [hg]; exact Nat.ne_of_lt (blk_lt (g := gb255) (o := .cells #[.int .i64 a0_0, .int .i64 a0_1] 82 (0, 0)) (zz5 BK255)) : gb255 ≠ gb256); have NB256_255 := Aside0.mk (by rw [hg]; exact Nat.ne_of_gt (blk_lt (g := gb255) (o := .cells #[.int .i64 a0_0, .int .i64 a0_1] 82 (0, 0)) (zz5 BK255)) : gb256 ≠ gb255); replace BK255 := Aside0.mk (blk_below (g := gb255) (o := .cells #[.int .i64 a0_0, .int .i64 a0_1] 82 (0, 0)) (zz5 BK255) hb); clear hb hbox hg) | (refine be 3 #[.int .i64 0, .int .i64 0] 40 ?_; intro gb257 hg w4 hbox hb; have BK257 := Aside0.mk hbox; have GW257 := Aside0.mk (zz43 GE255 GE256 : w.heap.size ≤ gb257); have GE257 := Aside0.mk (zz43 GE255 GE256 : w.heap.size ≤ gb257); replace HB := Aside0.mk (below_step (zz7 GE255 GE256) hb); have NB255_257 := Aside0.mk (by rw [hg]; exact Nat.ne_of_lt (blk_lt (g := gb255) (o := .cells #[.int .i64 a0_0, .int .i64 a0_1] 82 (0, 0)) (zz5 BK255)) : gb255 ≠ gb257); have NB257_255 := Aside0.mk (by rw [hg]; exact Nat.ne_of_gt (blk_lt (g := gb255) (o := .cells #[.int .i64 a0_0, .int .i64 a0_1] 82 (0, 0)) (zz5 BK255)) : gb257 ≠ gb255); replace BK255 := Aside0.mk (blk_below (g := gb255) (o := .cells #[.int .i64 a0_0, .int .i64 a0_1] 82 (0, 0)) (zz5 BK255) hb); have NB256_257 := Aside0.mk (by rw [hg]; exact Nat.ne_of_lt (blk_lt (g := gb256) (o := .cells #[.int .i64 0, .int .i64 0] 40 (0, 0)) (zz5 BK256)) : gb256 ≠ gb257); have NB257_256 := Aside0.mk (by rw [hg]; exact Nat.ne_of_gt (blk_lt (g := gb256) (o := .cells #[.int .i64 0, .int .i64 0] 40 (0, 0)) (zz5 BK256)) : gb257 ≠ gb256); replace BK256 := Aside0.mk (blk_below (g := gb256) (o := .cells #[.int .i64 0, .int .i64 0] 40 (0, 0)) (zz5 BK256) hb); clear hb hbox hg; have hnb5 := NB255_256.out; have hnc5 := NB256_255.out; have hnb6 := NB255_257.out; have hnc6 := NB257_255.out; have hcz7_0 : w4.cell? ⟨gb255, 0, none⟩ = some (.int .i64 a0_0) := (blk_cell BK255.out 0).trans rfl; have hcz7_1 : w4.cell? ⟨gb255, 1, none⟩ = some (.int .i64 a0_1) := (blk_cell BK255.out 1).trans rfl; have hfz7_0 := blk_frozen BK255.out 0; have hfz7_1 := blk_frozen BK255.out 1; have hnb8 := NB257_256.out; have hnc8 := NB256_257.out; have hcz9_0 : w4.cell? ⟨gb257, 0, none⟩ = some (.int .i64 0) := (blk_cell BK257.out 0).trans rfl; have hcz9_1 : w4.cell? ⟨gb257, 1, none⟩ = some (.int .i64 0) := (blk_cell BK257.out 1).trans rfl; have hfz9_0 := blk_frozen BK257.out 0; have hfz9_1 := blk_frozen BK257.out 1; have hcz10_0 : w4.cell? ⟨gb256, 0, none⟩ = some (.int .i64 0) := (blk_cell BK256.out 0).trans rfl; have hcz10_1 : w4.cell? ⟨gb256, 1, none⟩ = some (.int .i64 0) := (blk_cell BK256.out 1).trans rfl; have hfz10_0 := blk_frozen BK256.out 0; have hfz10_1 := blk_frozen BK256.out 1))
 refine bodyPost_ret (results_cell_row rfl _ _ gb256 40 #[.int .i64 a0_0, .int .i64 a0_1] (0, 0) _ rfl (by (with_reducible repeat (first | refine blk_drewN ?_ _ | refine blk_drew ?_ | refine blk_alloc ?_ _)); refine blk_put (cs := #[.int .i64 a0_0, .int .i64 0]) ?_ 1 _ rfl; (with_reducible repeat (first | refine blk_drewN ?_ _ | refine blk_drew ?_ | refine blk_alloc ?_ _)); refine blk_put (cs := #[.int .i64 0, .int .i64 0]) ?_ 0 _ rfl; (with_reducible repeat (first | refine blk_drewN ?_ _ | refine blk_drew ?_ | refine blk_alloc ?_ _)); refine blk_far ?_ NB256_257.out _; (with_reducible repeat (first | refine blk_drewN ?_ _ | refine blk_drew ?_ | refine blk_alloc ?_ _)); refine blk_far ?_ NB256_257.out _; (with_reducible repeat (first | refine blk_drewN ?_ _ | refine blk_drew ?_ | refine blk_alloc ?_ _)); exact BK256.out) Try.underlying40 rfl (by kernel_rfl)) rfl ?_
 exact ⟨zz6, zz44 GE255 GE256 GE257⟩

/-! ### laws_toWay: function 81 -/
def laws_toWay.f (a0_0 : Int) (a0_1 : Int) (a0_2 : Int) : Option (Int × Int × Int) := (laws_toBlock.f a0_0 a0_1).bind fun bt261 => (some (bt261.1, bt261.2, a0_2))
set_option maxHeartbeats 8000000 in
set_option maxRecDepth 100000 in
theorem laws_toWay.calls (a0_0 : Int) (a0_1 : Int) (a0_2 : Int) (r1 : Int) (r2 : Int) (r3 : Int) (w : World) (h : laws_toWay.f a0_0 a0_1 a0_2 = some (r1, r2, r3)) :
  Calls Try.prog 81 #[.agg #[.int .i64 a0_0, .int .i64 a0_1, .int .i64 a0_2]] w fun e w' => e = .returned (.agg #[.int .i64 r1, .int .i64 r2, .int .i64 r3]) ∧ Below w.heap.size w w' := by
 have hu98 := Try.underlying98
 have hu95 := Try.underlying95
 have hu82 := Try.underlying82
 have hu40 := Try.underlying40
 have HB := Aside0.mk (Below.refl w.heap.size w)
 have H : ((laws_toBlock.f a0_0 a0_1).bind fun bt261 => (some (bt261.1, bt261.2, a0_2))) = some (r1, r2, r3) := h
 clear h
 replace H := bd H
 obtain ⟨⟨t261, t262⟩, A2, H⟩ := H
 replace H : (some (t261, t262, a0_2)) = some (r1, r2, r3) := H
 simp only [Option.some.injEq, Prod.mk.injEq] at H
 obtain ⟨rfl, rfl, rfl⟩ := H
 go_enter Try.func81, Try.ntmps81
 go_wp2_with (first | (refine be 1 #[.int .i64 a0_0, .int .i64 a0_1, .int .i64 a0_2] 98 ?_; intro gb258 hg w3 hbox hb; have BK258 := Aside0.mk hbox; have GW258 := Aside0.mk (zz1 : w.heap.size ≤ gb258); have GE258 := Aside0.mk (zz1 : w.heap.size ≤ gb258); replace HB := Aside0.mk (below_step zz2 hb); clear hb hbox hg) | (refine be 2 #[.int .i64 0, .int .i64 0, .int .i64 0] 95 ?_; intro gb259 hg w4 hbox hb; have BK259 := Aside0.mk hbox; have GW259 := Aside0.mk (zz3 GE258 : w.heap.size ≤ gb259); have GE259 := Aside0.mk (zz3 GE258 : w.heap.size ≤ gb259); replace HB := Aside0.mk (below_step (zz4 GE258) hb); have NB258_259 := Aside0.mk (by rw [hg]; exact Nat.ne_of_lt (blk_lt (g := gb258) (o := .cells #[.int .i64 a0_0, .int .i64 a0_1, .int .i64 a0_2] 98 (0, 0)) (zz5 BK258)) : gb258 ≠ gb259); have NB259_258 := Aside0.mk (by rw [hg]; exact Nat.ne_of_gt (blk_lt (g := gb258) (o := .cells #[.int .i64 a0_0, .int .i64 a0_1, .int .i64 a0_2] 98 (0, 0)) (zz5 BK258)) : gb259 ≠ gb258); replace BK258 := Aside0.mk (blk_below (g := gb258) (o := .cells #[.int .i64 a0_0, .int .i64 a0_1, .int .i64 a0_2] 98 (0, 0)) (zz5 BK258) hb); clear hb hbox hg) | (refine be 3 #[.int .i64 0, .int .i64 0, .int .i64 0] 95 ?_; intro gb260 hg w5 hbox hb; have BK260 := Aside0.mk hbox; have GW260 := Aside0.mk (zz43 GE258 GE259 : w.heap.size ≤ gb260); have GE260 := Aside0.mk (zz43 GE258 GE259 : w.heap.size ≤ gb260); replace HB := Aside0.mk (below_step (zz7 GE258 GE259) hb); have NB258_260 := Aside0.mk (by rw [hg]; exact Nat.ne_of_lt (blk_lt (g := gb258) (o := .cells #[.int .i64 a0_0, .int .i64 a0_1, .int .i64 a0_2] 98 (0, 0)) (zz5 BK258)) : gb258 ≠ gb260); have NB260_258 := Aside0.mk (by rw [hg]; exact Nat.ne_of_gt (blk_lt (g := gb258) (o := .cells #[.int .i64 a0_0, .int .i64 a0_1, .int .i64 a0_2] 98 (0, 0)) (zz5 BK258)) : gb260 ≠ gb258); replace BK258 := Aside0.mk (blk_below (g := gb258) (o := .cells #[.int .i64 a0_0, .int .i64 a0_1, .int .i64 a0_2] 98 (0, 0)) (zz5 BK258) hb); have NB259_260 := Aside0.mk (by rw [hg]; exact Nat.ne_of_lt (blk_lt (g := gb259) (o := .cells #[.int .i64 0, .int .i64 0, .int .i64 0] 95 (0, 0)) (zz5 BK259)) : gb259 ≠ gb260); have NB260_259 := Aside0.mk (by rw [hg]; exact Nat.ne_of_gt (blk_lt (g := gb259) (o := .cells #[.int .i64 0, .int .i64 0, .int .i64 0] 95 (0, 0)) (zz5 BK259)) : gb260 ≠ gb259); replace BK259 := Aside0.mk (blk_below (g := gb259) (o := .cells #[.int .i64 0, .int .i64 0, .int .i64 0] 95 (0, 0)) (zz5 BK259) hb); clear hb hbox hg; have hnb6 := NB258_259.out; have hnc6 := NB259_258.out; have hnb7 := NB258_260.out; have hnc7 := NB260_258.out; have hcz8_0 : w5.cell? ⟨gb258, 0, none⟩ = some (.int .i64 a0_0) := (blk_cell BK258.out 0).trans rfl; have hcz8_1 : w5.cell? ⟨gb258, 1, none⟩ = some (.int .i64 a0_1) := (blk_cell BK258.out 1).trans rfl; have hcz8_2 : w5.cell? ⟨gb258, 2, none⟩ = some (.int .i64 a0_2) := (blk_cell BK258.out 2).trans rfl; have hfz8_0 := blk_frozen BK258.out 0; have hfz8_1 := blk_frozen BK258.out 1; have hfz8_2 := blk_frozen BK258.out 2) | (refine gc (some 6) Try.func60 #[.agg #[.int .i64 a0_0, .int .i64 a0_1]] ?_; (with_reducible refine (laws_toBlock.calls a0_0 a0_1 t261 t262 _ A2.out).mono ?_); rintro e w9 ⟨rfl, hb⟩; refine ⟨_, rfl, ?_⟩; replace BK258 := Aside0.mk (blk_below (g := gb258) (o := .cells #[.int .i64 a0_0, .int .i64 a0_1, .int .i64 a0_2] 98 (0, 0)) (zz5 BK258) hb); replace BK259 := Aside0.mk (blk_below (g := gb259) (o := .cells #[.int .i64 0, .int .i64 0, .int .i64 0] 95 (0, 0)) (zz5 BK259) hb); replace BK260 := Aside0.mk (blk_below (g := gb260) (o := .cells #[.int .i64 0, .int .i64 0, .int .i64 0] 95 (0, 0)) (zz5 BK260) hb); replace HB := Aside0.mk (below_step (zz44 GE258 GE259 GE260) hb); clear hb; have hnb10 := NB260_259.out; have hnc10 := NB259_260.out; have hcz11_0 : w9.cell? ⟨gb260, 0, none⟩ = some (.int .i64 0) := (blk_cell BK260.out 0).trans rfl; have hcz11_1 : w9.cell? ⟨gb260, 1, none⟩ = some (.int .i64 0) := (blk_cell BK260.out 1).trans rfl; have hcz11_2 : w9.cell? ⟨gb260, 2, none⟩ = some (.int .i64 0) := (blk_cell BK260.out 2).trans rfl; have hfz11_0 := blk_frozen BK260.out 0; have hfz11_1 := blk_frozen BK260.out 1; have hfz11_2 := blk_frozen BK260.out 2; have hcz12_0 : w9.cell? ⟨gb258, 0, none⟩ = some (.int .i64 a0_0) := (blk_cell BK258.out 0).trans rfl; have hcz12_1 : w9.cell? ⟨gb258, 1, none⟩ = some (.int .i64 a0_1) := (blk_cell BK258.out 1).trans rfl; have hcz12_2 : w9.cell? ⟨gb258, 2, none⟩ = some (.int .i64 a0_2) := (blk_cell BK258.out 2).trans rfl; have hfz12_0 := blk_frozen BK258.out 0; have hfz12_1 := blk_frozen BK258.out 1; have hfz12_2 := blk_frozen BK258.out 2; have hcz13_0 : w9.cell? ⟨gb259, 0, none⟩ = some (.int .i64 0) := (blk_cell BK259.out 0).trans rfl; have hcz13_1 : w9.cell? ⟨gb259, 1, none⟩ = some (.int .i64 0) := (blk_cell BK259.out 1).trans rfl; have hcz13_2 : w9.cell? ⟨gb259, 2, none⟩ = some (.int .i64 0) := (blk_cell BK259.out 2).trans rfl; have hfz13_0 := blk_frozen BK259.out 0; have hfz13_1 := blk_frozen BK259.out 1; have hfz13_2 := blk_frozen BK259.out 2))
 refine bodyPost_ret (results_cell_row rfl _ _ gb259 95 #[.int .i64 t261, .int .i64 t262, .int .i64 a0_2] (0, 0) _ rfl (by (with_reducible repeat (first | refine blk_drewN ?_ _ | refine blk_drew ?_ | refine blk_alloc ?_ _)); refine blk_put (cs := #[.int .i64 t261, .int .i64 t262, .int .i64 0]) ?_ 2 _ rfl; (with_reducible repeat (first | refine blk_drewN ?_ _ | refine blk_drew ?_ | refine blk_alloc ?_ _)); refine blk_put (cs := #[.int .i64 t261, .int .i64 0, .int .i64 0]) ?_ 1 _ rfl; (with_reducible repeat (first | refine blk_drewN ?_ _ | refine blk_drew ?_ | refine blk_alloc ?_ _)); refine blk_put (cs := #[.int .i64 0, .int .i64 0, .int .i64 0]) ?_ 0 _ rfl; (with_reducible repeat (first | refine blk_drewN ?_ _ | refine blk_drew ?_ | refine blk_alloc ?_ _)); refine blk_far ?_ NB259_260.out _; (with_reducible repeat (first | refine blk_drewN ?_ _ | refine blk_drew ?_ | refine blk_alloc ?_ _)); refine blk_far ?_ NB259_260.out _; (with_reducible repeat (first | refine blk_drewN ?_ _ | refine blk_drew ?_ | refine blk_alloc ?_ _)); refine blk_far ?_ NB259_260.out _; (with_reducible repeat (first | refine blk_drewN ?_ _ | refine blk_drew ?_ | refine blk_alloc ?_ _)); exact BK259.out) Try.underlying95 rfl (by kernel_rfl)) rfl ?_
 exact ⟨zz6, zz44 GE258 GE259 GE260⟩

/-! ### laws_toWayS: function 36 -/
def laws_toWayS.l0 : Nat → List (S98) → List (S95) → Int → Option ((List (S95)))
 | 0, _, _, _ => none
 | k + 1, x0, x3, x4 => if x4 < (x0.length : Int) then (if 0 ≤ x4 then ((laws_toWay.f ((rd_T98 x0 x4).f0.f0) ((rd_T98 x0 x4).f0.f1) ((rd_T98 x0 x4).f1)).bind fun bt267 => (if x4 < (x3.length : Int) then (laws_toWayS.l0 k x0 (x3.set (x4 : Int).toNat (⟨(⟨bt267.1, bt267.2.1⟩ : S40), bt267.2.2⟩ : S95)) (wrap64 (x4 + 1))) else (none))) else (none)) else (some x3)
def laws_toWayS.f (k : Nat) (l0 : List (S98)) : Option ((List (S95))) := if 0 ≤ (l0.length : Int) then (if ((l0.length : Int) : Int).toNat ≤ 11728124029610 then (laws_toWayS.l0 k l0 (List.replicate ((l0.length : Int) : Int).toNat z95) 0) else (none)) else (none)
theorem laws_toWayS.mono_l : ∀ k, (∀ y0 y1 y2, LeO (laws_toWayS.l0 k y0 y1 y2) (laws_toWayS.l0 (k + 1) y0 y1 y2))
 | 0 => fun _ _ _ r h => by simp [laws_toWayS.l0] at h
 | k + 1 => by
  have ih0 := laws_toWayS.mono_l k
  ·intro y0 y1 y2
   unfold laws_toWayS.l0
   repeat' first
   | (with_reducible exact ih0 _ _ _)
   | (with_reducible exact LeO.refl _)
   | (with_reducible exact LeO.none _)
   | (with_reducible refine LeO.ite ?_ ?_)
   | (with_reducible refine LeO.bind ?_ (fun _ => ?_))
   | exact ih0 _ _ _
   | exact LeO.none _
   | refine LeO.ite ?_ ?_
   | refine LeO.bind ?_ (fun _ => ?_)
theorem laws_toWayS.mono : ∀ a0 k, LeO (laws_toWayS.f k a0) (laws_toWayS.f (k + 1) a0) := by
 intro a0 k
 have ih0 := laws_toWayS.mono_l k
 unfold laws_toWayS.f
 repeat' first
   | (with_reducible exact ih0 _ _ _)
   | (with_reducible exact LeO.refl _)
   | (with_reducible exact LeO.none _)
   | (with_reducible refine LeO.ite ?_ ?_)
   | (with_reducible refine LeO.bind ?_ (fun _ => ?_))
   | exact ih0 _ _ _
   | exact LeO.none _
   | refine LeO.ite ?_ ?_
   | refine LeO.bind ?_ (fun _ => ?_)
set_option maxHeartbeats 8000000 in
set_option maxRecDepth 100000 in
theorem laws_toWayS.calls (k : Nat) (A0 : Option Addr) (c0 : Nat) (l0 : List (S98)) (r : List (S95)) (w : World) (hr0 : Kd.C k98 w A0 l0.length l0) (hc0 : l0.length ≤ c0) (h : laws_toWayS.f k l0 = some r) :
  Calls Try.prog 36 #[.slice A0 l0.length c0] w fun e w' => ∃ v0_ : Value, e = .returned (v0_) ∧ Kd.R k95 95 w' w.heap.size (fun _ => True) v0_ r ∧ Below w.heap.size w w' := by
 have hu98 := Try.underlying98
 have hu95 := Try.underlying95
 have HR0 := Aside0.mk hr0
 have HC0 := Aside0.mk hc0
 clear hr0 hc0
 have HB := Aside0.mk (Below.refl w.heap.size w)
 have H : (if 0 ≤ (l0.length : Int) then (if ((l0.length : Int) : Int).toNat ≤ 11728124029610 then (laws_toWayS.l0 k l0 (List.replicate ((l0.length : Int) : Int).toNat z95) 0) else (none)) else (none)) = some r := h
 clear h
 by_cases c2 : 0 ≤ (l0.length : Int)
 ·rw [if_pos c2] at H
  have c2b0 := eq_true c2
  have c2b1 : decide (0 ≤ (l0.length : Int)) = true := decide_eq_true c2
  clear c2
  replace H := gp H
  obtain ⟨c3, H⟩ := H
  have c3b0 := eq_true c3
  have c3b1 : decide (((l0.length : Int) : Int).toNat ≤ 11728124029610) = true := decide_eq_true c3
  clear c3
  obtain ⟨y263, hy263⟩ : ∃ y_ : List (S95), y_ = (List.replicate ((l0.length : Int) : Int).toNat z95) := ⟨_, rfl⟩
  replace H : (laws_toWayS.l0 k l0 y263 0) = some r := by first | (rw [hy263]; with_reducible exact H) | (have H2_ := (Option.bind_some _ _).symm.trans H; rw [hy263]; with_reducible exact H2_) | (have H2_ := (Option.bind_some _ _).symm.trans H; with_reducible exact H2_) | with_reducible exact H | (rw [hy263]; exact H) | exact H
  have Ny263 := Aside0.mk hy263
  clear hy263
  have H' := Aside0.mk H
  clear H
  go_enter Try.func36, Try.ntmps36
  go_wp2_with (first | (refine gt 7 ?_; refine Kd.R_make k95 _ 95 rfl (N := 7) rfl 54 _ _ rfl (l0.length : Int) rfl rfl Try.underlying54 (.agg #[(.int .i64 0), (.int .i64 0), (.int .i64 0)]) 24 info95 rfl (by decide) (by omega) z95 (ok := fun _ => True) (okp := fun _ => True) (k95_mkM _ _ _ z95 ) (fun _ hk => hk) trivial (of_decide_eq_true zz19) (Nat.le_trans (Nat.mul_le_mul_right _ (of_decide_eq_true zz19 : (l0.length : Int).toNat ≤ 11728124029610)) (by omega)) (Below.refl _ _) (Nat.le_refl _) ?_; intro v264 w4 ho5 hb hg_ hnew_; clear hg_ hnew_; (first | rw [← Ny263.out] at ho5 | (simp only [Int.reduceToNat] at ho5; rw [← Ny263.out] at ho5)); have HO265 := Aside0.mk (Kd.R_lower ho5 (below_size zz2)); replace HB := Aside0.mk (below_step zz2 hb); clear hb ho5))
  go_loopg [4] k (fun kq v4 w' => ∃ (x3_1 : List (S95)) (x4_1 : Int), v4 = .int .i64 x4_1 ∧ Aside0 (laws_toWayS.l0 kq l0 x3_1 x4_1 = some r) ∧ Aside0 (kq ≤ k) ∧ Aside0 (Kd.R k95 95 w' w.heap.size (fun _ => True) v264 x3_1) ∧ Aside0 (Below w.heap.size w w'))
  case atStart => exact ⟨(y263), (0), zz8, H', ⟨Nat.le_refl _⟩, ⟨zz13 HO265⟩, ⟨zz2⟩⟩
  case round =>
   clear H'
   try clear c2
   try clear c2b0
   try clear c2b1
   try clear p2
   try clear c3
   try clear c3b0
   try clear c3b1
   obtain ⟨x3_1, x4_1, rfl, HA, HK1, HO_3, HB⟩ := hrel
   cases gk with
   | zero => exact absurd HA.out (by simp [laws_toWayS.l0])
   | succ k1 =>
    have H := HA.out
    clear HA
    simp only [laws_toWayS.l0] at H
    replace H := ic H
    rcases H with ⟨c6b0, H⟩ | ⟨c6b0, H⟩
    ·replace H := gd H
     obtain ⟨c7b0, H⟩ := H
     replace H := bd H
     obtain ⟨⟨t267, t268, t269⟩, A8, H⟩ := H
     replace H : (if x4_1 < (x3_1.length : Int) then (laws_toWayS.l0 k1 l0 (x3_1.set (x4_1 : Int).toNat (⟨(⟨t267, t268⟩ : S40), t269⟩ : S95)) (wrap64 (x4_1 + 1))) else (none)) = some r := H
     replace H := gd H
     obtain ⟨c9b0, H⟩ := H
     obtain ⟨y270, hy270⟩ : ∃ y_ : List (S95), y_ = (x3_1.set (x4_1 : Int).toNat (⟨(⟨t267, t268⟩ : S40), t269⟩ : S95)) := ⟨_, rfl⟩
     replace H : (laws_toWayS.l0 k1 l0 y270 (wrap64 (x4_1 + 1))) = some r := by first | (rw [hy270]; with_reducible exact H) | (have H2_ := (Option.bind_some _ _).symm.trans H; rw [hy270]; with_reducible exact H2_) | (have H2_ := (Option.bind_some _ _).symm.trans H; with_reducible exact H2_) | with_reducible exact H | (rw [hy270]; exact H) | exact H
     have Ny270 := Aside0.mk hy270
     clear hy270
     have H' := Aside0.mk H
     clear H
     obtain ⟨⟨ad266, e266, hx266_0, hx266_1, hx266_2⟩, p266, q266⟩ := wi (at_T98 HR0.out x4_1)
     cases e266
     replace hx266_0 := (HB.out.cell (World.block_lt_of_cell? w _ hx266_0)).trans hx266_0
     replace hx266_1 := (HB.out.cell (World.block_lt_of_cell? w _ hx266_1)).trans hx266_1
     replace hx266_2 := (HB.out.cell (World.block_lt_of_cell? w _ hx266_2)).trans hx266_2
     go_wp2_with (first | (refine gc (some 20) Try.func81 #[.agg #[.int .i64 ((rd_T98 l0 x4_1).f0.f0), .int .i64 ((rd_T98 l0 x4_1).f0.f1), .int .i64 ((rd_T98 l0 x4_1).f1)]] ?_; (with_reducible refine (laws_toWay.calls ((rd_T98 l0 x4_1).f0.f0) ((rd_T98 l0 x4_1).f0.f1) ((rd_T98 l0 x4_1).f1) t267 t268 t269 _ A8.out).mono ?_); rintro e w11 ⟨rfl, hb⟩; refine ⟨_, rfl, ?_⟩; replace HO_3 := Aside0.mk (Kd.R_below (zz13 HO_3) hb); replace HB := Aside0.mk (below_step zz2 hb); clear hb; have p10 : 0 ≤ (x4_1 : Int) := of_decide_eq_true zz19; have q10 : (x4_1 : Int) < ((x3_1.length : Int) : Int) := of_decide_eq_true zz19; obtain ⟨go10, co10, eo10, gb10, gl10, cl10, HG10⟩ := Kd.R_form HO_3.out (by omega); (first | cases eo10 | (injection eo10 with ea_ en_ ec_; (first | subst ea_ | (injection ea_ with ea_; subst ea_)); subst ec_; clear en_)); have GB10 := Aside0.mk gb10; have GG10 := Aside0.mk HG10; clear gb10 gl10 HG10; obtain ⟨ce10, hcl10, hM10, hcc10, hfr10⟩ := Kd.R_elem HO_3.out z95 (x4_1 : Int) p10 q10; obtain rfl := k95_openM hM10; have hx10_0 : w11.cell? ⟨go10, (x4_1 : Int).toNat * 3, none⟩ = some (.int .i64 ((rd_T95 x3_1 x4_1).f0.f0)) := hcc10 0 _ rfl; have hx10_1 : w11.cell? ⟨go10, (x4_1 : Int).toNat * 3 + 1, none⟩ = some (.int .i64 ((rd_T95 x3_1 x4_1).f0.f1)) := hcc10 1 _ rfl; have hx10_2 : w11.cell? ⟨go10, (x4_1 : Int).toNat * 3 + 2, none⟩ = some (.int .i64 ((rd_T95 x3_1 x4_1).f1)) := hcc10 2 _ rfl; have hf10_0 : w11.frozen? ⟨go10, (x4_1 : Int).toNat * 3, none⟩ = false := hfr10 0; have hf10_1 : w11.frozen? ⟨go10, (x4_1 : Int).toNat * 3 + 1, none⟩ = false := hfr10 1; have hf10_2 : w11.frozen? ⟨go10, (x4_1 : Int).toNat * 3 + 2, none⟩ = false := hfr10 2; clear hcl10 hcc10 hfr10 hM10; replace p10 := eq_true p10; replace q10 := eq_true q10; have HX12 := Aside0.mk (show Kd.R k95 95 w11 w.heap.size (fun _ => True) (.slice (some ⟨go10, 0, none⟩) x3_1.length co10) x3_1 from (zz13 HO_3)); obtain ⟨ce12, hcl12, hM12, hcc12, hfr12⟩ := Kd.R_elem HX12.out z95 (x4_1 : Int) (of_decide_eq_true zz19) (by have h_ : (x4_1 : Int) < ((x3_1.length : Int) : Int) := of_decide_eq_true zz19; first | exact h_ | (have e_ := (Kd.R_reads' HO_3.out).1; omega) | simpa using h_); obtain rfl := k95_openM hM12; have HP12 := Kd.R_seg HX12.out (x4_1 : Int) (of_decide_eq_true zz19) (by have h_ : (x4_1 : Int) < ((x3_1.length : Int) : Int) := of_decide_eq_true zz19; first | exact h_ | (have e_ := (Kd.R_reads' HO_3.out).1; omega) | simpa using h_) (seg := [.int .i64 t267, .int .i64 t268, .int .i64 t269]) (j := 0) hcl12 hcc12 (show 3 ≤ 3 from by decide) (x' := (⟨(⟨t267, t268⟩ : S40), t269⟩ : S95)) (k95_mkM _ _ _ (⟨(⟨t267, t268⟩ : S40), t269⟩ : S95) ) (fun _ hk => hk); have hx12_0 := hcc12 0 _ rfl; (try simp only [show (k95).sz = 3 from rfl, Nat.mul_one, Nat.add_zero] at hx12_0); have hf12_0 := hfr12 0; (try simp only [show (k95).sz = 3 from rfl, Nat.mul_one, Nat.add_zero] at hf12_0); have hx12_1 := hcc12 1 _ rfl; (try simp only [show (k95).sz = 3 from rfl, Nat.mul_one, Nat.add_zero] at hx12_1); have hf12_1 := hfr12 1; (try simp only [show (k95).sz = 3 from rfl, Nat.mul_one, Nat.add_zero] at hf12_1); have hx12_2 := hcc12 2 _ rfl; (try simp only [show (k95).sz = 3 from rfl, Nat.mul_one, Nat.add_zero] at hx12_2); have hf12_2 := hfr12 2; (try simp only [show (k95).sz = 3 from rfl, Nat.mul_one, Nat.add_zero] at hf12_2); clear hcl12 hcc12 hfr12 hM12) | ((with_reducible refine gate_store (t := 95) (p := 21) rfl ?_); refine store_event (t := 95) (p := 21) (v := ?vo_w13) (w1 := (((w11.setCell ⟨go10, (x4_1 : Int).toNat * 3, none⟩ (.int .i64 t267)).setCell ⟨go10, (x4_1 : Int).toNat * 3 + 1, none⟩ (.int .i64 t268)).setCell ⟨go10, (x4_1 : Int).toNat * 3 + 2, none⟩ (.int .i64 t269))) ?hg ?ho ?hn ?hr ?_; (case ho => rfl); (case hg => rfl); (case hn => rfl); (case hr => exact zz14); intro w13 hw; have hg : w11.grownBy w13 (some go10) := (by rw [hw]; exact HP12.2); have hp_ : Kd.R k95 95 w13 w.heap.size (fun _ => True) (.slice (some ⟨go10, 0, none⟩) x3_1.length co10) y270 := (by rw [hw, Ny270.out]; exact HP12.1); clear HP12; replace HO_3 := Aside0.mk hp_; replace HB := Aside0.mk (by rw [hw]; exact below_set (below_set (below_set (HB.out) GB10.out) GB10.out) GB10.out : Below w.heap.size w w13); clear hg hw hp_))
     go_roundg k1
     case measure => have := HK1.out; omega
     case rel => exact ⟨(y270), (wrap64 (x4_1 + 1)), zz8, H', ⟨zz9 HK1⟩, ⟨zz13 HO_3⟩, ⟨zz2⟩⟩
    ·obtain rfl := Option.some.inj H
     go_wp2
     go_ret
     exact ⟨_, zz6, zz13 HO_3, zz2⟩
 ·rw [if_neg c2] at H
  exact absurd H (by simp)

/-! ### impl_around: function 70 -/
def impl_around.f (a0 : Int) (a1 : Int) : Option (Int × Int) := if 0 ≤ (wrap64 (32 - a1)) then (some (shl .i64 (shr .i64 a0 (wrap64 (32 - a1))) (wrap64 (32 - a1)), a1)) else (none)
set_option maxHeartbeats 8000000 in
set_option maxRecDepth 100000 in
theorem impl_around.calls (a0 : Int) (a1 : Int) (r1 : Int) (r2 : Int) (w : World) (h : impl_around.f a0 a1 = some (r1, r2)) :
  Calls Try.prog 70 #[.int .i64 a0, .int .i64 a1] w fun e w' => e = .returned (.agg #[.int .i64 r1, .int .i64 r2]) ∧ Below w.heap.size w w' := by
 have hu40 := Try.underlying40
 have HB := Aside0.mk (Below.refl w.heap.size w)
 have H : (if 0 ≤ (wrap64 (32 - a1)) then (some (shl .i64 (shr .i64 a0 (wrap64 (32 - a1))) (wrap64 (32 - a1)), a1)) else (none)) = some (r1, r2) := h
 clear h
 obtain ⟨ji3, hji3⟩ : ∃ j_ : Int, (wrap64 (32 - a1)) = j_ := ⟨_, rfl⟩
 replace H : (if 0 ≤ (ji3) then (some (shl .i64 (shr .i64 a0 (ji3)) (ji3), a1)) else (none)) = some (r1, r2) := by first | (rw [hji3] at H; exact H) | (simp only [hji3] at H ⊢; exact H)
 have hji3w : (IntKind.i64.wrap (32 - a1)) = ji3 := (i64_w _).trans hji3
 by_cases c4 : 0 ≤ (ji3)
 ·rw [if_pos c4] at H
  have c4b0 := eq_true c4
  have c4b1 : decide (0 ≤ (ji3)) = true := decide_eq_true c4
  clear c4
  obtain ⟨ji5, hji5⟩ : ∃ j_ : Int, (shr .i64 a0 (ji3)) = j_ := ⟨_, rfl⟩
  replace H : (some (shl .i64 (ji5) (ji3), a1)) = some (r1, r2) := by first | (rw [hji5] at H; exact H) | (simp only [hji5] at H ⊢; exact H)
  have hji5_ : (a0 / 2 ^ min (ji3).toNat 64) = ji5 := hji5
  have hji5z : (ji3) ≤ 64 → (a0 / 2 ^ (ji3).toNat) = ji5 := shr_small hji5
  have c6b0 := eq_true (of_decide_eq_true zz19 : 0 ≤ (ji3))
  obtain ⟨ji7, hji7⟩ : ∃ j_ : Int, (shl .i64 (ji5) (ji3)) = j_ := ⟨_, rfl⟩
  replace H : (some (ji7, a1)) = some (r1, r2) := by first | (rw [hji7] at H; exact H) | (simp only [hji7] at H ⊢; exact H)
  have hji7_ : (IntKind.i64.wrap ((ji5) * 2 ^ min (ji3).toNat 64)) = ji7 := hji7
  have hji7z : (ji3) ≤ 64 → (IntKind.i64.wrap ((ji5) * 2 ^ (ji3).toNat)) = ji7 := shl_small hji7
  have hji7y : (wrap64 ((ji5) * 2 ^ min (ji3).toNat 64)) = ji7 := (i64_w _).symm.trans hji7_
  have hji7x : (ji3) ≤ 64 → (wrap64 ((ji5) * 2 ^ (ji3).toNat)) = ji7 := fun h_ => (i64_w _).symm.trans (hji7z h_)
  simp only [Option.some.injEq, Prod.mk.injEq] at H
  obtain ⟨rfl, rfl⟩ := H
  go_enter Try.func70, Try.ntmps70
  go_wp2_with (first | (refine be 4 #[.int .i64 0, .int .i64 0] 40 ?_; intro gb271 hg w8 hbox hb; have BK271 := Aside0.mk hbox; have GW271 := Aside0.mk (zz1 : w.heap.size ≤ gb271); have GE271 := Aside0.mk (zz1 : w.heap.size ≤ gb271); replace HB := Aside0.mk (below_step zz2 hb); clear hb hbox hg; have hcz9_0 : w8.cell? ⟨gb271, 0, none⟩ = some (.int .i64 0) := (blk_cell BK271.out 0).trans rfl; have hcz9_1 : w8.cell? ⟨gb271, 1, none⟩ = some (.int .i64 0) := (blk_cell BK271.out 1).trans rfl; have hfz9_0 := blk_frozen BK271.out 0; have hfz9_1 := blk_frozen BK271.out 1))
  refine bodyPost_ret (results_cell_row rfl _ _ gb271 40 #[.int .i64 ji7, .int .i64 a1] (0, 0) _ rfl (by (with_reducible repeat (first | refine blk_drewN ?_ _ | refine blk_drew ?_ | refine blk_alloc ?_ _)); refine blk_put (cs := #[.int .i64 ji7, .int .i64 0]) ?_ 1 _ rfl; (with_reducible repeat (first | refine blk_drewN ?_ _ | refine blk_drew ?_ | refine blk_alloc ?_ _)); refine blk_put (cs := #[.int .i64 0, .int .i64 0]) ?_ 0 _ rfl; (with_reducible repeat (first | refine blk_drewN ?_ _ | refine blk_drew ?_ | refine blk_alloc ?_ _)); exact BK271.out) Try.underlying40 rfl (by kernel_rfl)) rfl ?_
  exact ⟨by first | rfl | (simp [errW_none, errW_some] <;> rfl) | (simp only [← hji3, ← hji5, ← hji7]; first | rfl | (simp [errW_none, errW_some] <;> rfl)) | (simp [*, errW_none, errW_some] <;> rfl), zz4 GE271⟩
 ·rw [if_neg c4] at H
  exact absurd H (by simp)

/-! ### impl_Block_size: function 54 -/
def impl_Block_size.f (a0_0 : Int) (a0_1 : Int) : Option (Int) := if 0 ≤ (wrap64 (32 - a0_1)) then (some (shl .i64 1 (wrap64 (32 - a0_1)))) else (none)
set_option maxHeartbeats 8000000 in
set_option maxRecDepth 100000 in
theorem impl_Block_size.calls (a0_0 : Int) (a0_1 : Int) (r : Int) (w : World) (h : impl_Block_size.f a0_0 a0_1 = some r) :
  Calls Try.prog 54 #[.agg #[.int .i64 a0_0, .int .i64 a0_1]] w fun e w' => e = .returned (.int .i64 r) ∧ Below w.heap.size w w' := by
 have hu40 := Try.underlying40
 have HB := Aside0.mk (Below.refl w.heap.size w)
 have H : (if 0 ≤ (wrap64 (32 - a0_1)) then (some (shl .i64 1 (wrap64 (32 - a0_1)))) else (none)) = some r := h
 clear h
 obtain ⟨ji2, hji2⟩ : ∃ j_ : Int, (wrap64 (32 - a0_1)) = j_ := ⟨_, rfl⟩
 replace H : (if 0 ≤ (ji2) then (some (shl .i64 1 (ji2))) else (none)) = some r := by first | (rw [hji2] at H; exact H) | (simp only [hji2] at H ⊢; exact H)
 have hji2w : (IntKind.i64.wrap (32 - a0_1)) = ji2 := (i64_w _).trans hji2
 by_cases c3 : 0 ≤ (ji2)
 ·rw [if_pos c3] at H
  have c3b0 := eq_true c3
  have c3b1 : decide (0 ≤ (ji2)) = true := decide_eq_true c3
  clear c3
  obtain ⟨ji4, hji4⟩ : ∃ j_ : Int, (shl .i64 1 (ji2)) = j_ := ⟨_, rfl⟩
  replace H : (some ji4) = some r := by first | (rw [hji4] at H; exact H) | (simp only [hji4] at H ⊢; exact H)
  have hji4_ : (IntKind.i64.wrap (1 * 2 ^ min (ji2).toNat 64)) = ji4 := hji4
  have hji4z : (ji2) ≤ 64 → (IntKind.i64.wrap (1 * 2 ^ (ji2).toNat)) = ji4 := shl_small hji4
  have hji4u : (IntKind.i64.wrap (2 ^ min (ji2).toNat 64)) = ji4 := by have h_ := hji4_; rw [Int.one_mul] at h_; exact h_
  have hji4v : (ji2) ≤ 64 → (IntKind.i64.wrap (2 ^ (ji2).toNat)) = ji4 := fun hle_ => by have h_ := hji4z hle_; rw [Int.one_mul] at h_; exact h_
  have hji4y : (wrap64 (1 * 2 ^ min (ji2).toNat 64)) = ji4 := (i64_w _).symm.trans hji4_
  have hji4x : (ji2) ≤ 64 → (wrap64 (1 * 2 ^ (ji2).toNat)) = ji4 := fun h_ => (i64_w _).symm.trans (hji4z h_)
  obtain rfl := Option.some.inj H
  go_enter Try.func54, Try.ntmps54
  go_wp2_with (first | (refine be 1 #[.int .i64 a0_0, .int .i64 a0_1] 40 ?_; intro gb272 hg w5 hbox hb; have BK272 := Aside0.mk hbox; have GW272 := Aside0.mk (zz1 : w.heap.size ≤ gb272); have GE272 := Aside0.mk (zz1 : w.heap.size ≤ gb272); replace HB := Aside0.mk (below_step zz2 hb); clear hb hbox hg; have hcz6_0 : w5.cell? ⟨gb272, 0, none⟩ = some (.int .i64 a0_0) := (blk_cell BK272.out 0).trans rfl; have hcz6_1 : w5.cell? ⟨gb272, 1, none⟩ = some (.int .i64 a0_1) := (blk_cell BK272.out 1).trans rfl; have hfz6_0 := blk_frozen BK272.out 0; have hfz6_1 := blk_frozen BK272.out 1))
  go_ret
  exact ⟨by first | rfl | (simp [errW_none, errW_some] <;> rfl) | (simp only [← hji2, ← hji4]; first | rfl | (simp [errW_none, errW_some] <;> rfl)) | (simp [*, errW_none, errW_some] <;> rfl), zz4 GE272⟩
 ·rw [if_neg c3] at H
  exact absurd H (by simp)

/-! ### impl_Block_last: function 89 -/
def impl_Block_last.f (a0_0 : Int) (a0_1 : Int) : Option (Int) := (impl_Block_size.f a0_0 a0_1).bind fun t274 => (some (wrap64 ((wrap64 (a0_0 + t274)) - 1)))
set_option maxHeartbeats 8000000 in
set_option maxRecDepth 100000 in
theorem impl_Block_last.calls (a0_0 : Int) (a0_1 : Int) (r : Int) (w : World) (h : impl_Block_last.f a0_0 a0_1 = some r) :
  Calls Try.prog 89 #[.agg #[.int .i64 a0_0, .int .i64 a0_1]] w fun e w' => e = .returned (.int .i64 r) ∧ Below w.heap.size w w' := by
 have hu40 := Try.underlying40
 have HB := Aside0.mk (Below.refl w.heap.size w)
 have H : ((impl_Block_size.f a0_0 a0_1).bind fun t274 => (some (wrap64 ((wrap64 (a0_0 + t274)) - 1)))) = some r := h
 clear h
 replace H := bd H
 obtain ⟨t274, A2, H⟩ := H
 replace H : (some (wrap64 ((wrap64 (a0_0 + t274)) - 1))) = some r := H
 obtain rfl := Option.some.inj H
 go_enter Try.func89, Try.ntmps89
 try go_wp2_with (first | (refine be 1 #[.int .i64 a0_0, .int .i64 a0_1] 40 ?_; intro gb273 hg w3 hbox hb; have BK273 := Aside0.mk hbox; have GW273 := Aside0.mk (zz1 : w.heap.size ≤ gb273); have GE273 := Aside0.mk (zz1 : w.heap.size ≤ gb273); replace HB := Aside0.mk (below_step zz2 hb); clear hb hbox hg))
 replace BK273 := Aside0.mk (blk_drew BK273.out)
 replace HB := Aside0.mk (below_drew1 HB.out)
 refine start_ (n := 7) (S := fun w' => w'.cell? ⟨gb273, 0, none⟩ = some (.int .i64 a0_0) ∧ w'.cell? ⟨gb273, 1, none⟩ = some (.int .i64 a0_1)) (ds := []) (bm 7 0) (by kernel_rfl) rfl rfl ⟨(blk_cell BK273.out 0).trans rfl, (blk_cell BK273.out 1).trans rfl⟩ (fun hHeld => ?_)
 generalize w3.drew = w4 at BK273 HB hHeld ⊢
 refine pu 0 3 (bm 7 1) ?_
 refine tk 1 4 (bm 7 3) ?_
 refine tk 2 5 (bm 7 7) ?_
 refine on 3 (some 6) (bm 7 15) (fun K hK => ?_)
 refine gs Try.func54 #[.agg #[.int .i64 a0_0, .int .i64 a0_1]] ?_
 with_reducible refine (impl_Block_size.calls a0_0 a0_1 t274 _ A2.out).mono ?_
 rintro e w5 ⟨rfl, hb⟩
 refine ⟨_, rfl, ?_⟩
 replace BK273 := Aside0.mk (blk_below (g := gb273) (o := .cells #[.int .i64 a0_0, .int .i64 a0_1] 40 (0, 0)) (zz5 BK273) hb)
 replace HB := Aside0.mk (below_step (zz4 GE273) hb)
 (try clear hb)
 (try clear hb2)
 (try clear hk)
 (try clear hi)
 refine hK.out _ _ ⟨(blk_cell BK273.out 0).trans rfl, (blk_cell BK273.out 1).trans rfl⟩ (fun hHeld => ?_)
 clear hK K
 refine nm 6 ?_
 refine pu 4 7 (bm 7 31) ?_
 refine pu 5 8 (bm 7 63) ?_
 refine pu 6 2 (bm 7 127) ?_
 refine done_ (by kernel_rfl) ?_
 try go_wp2
 go_ret
 exact ⟨zz6, zz4 GE273⟩

end Go.Proofs.Ythkjkmgbdahggaa.PW
