/- A text printed by this session's wip/myprint.py over the kit's print: contracts of functions of the given program, each at what its Lean function says. -/
import Derived.Test.YthkjkmgbdahggaaPWx0
import Derived.Test.YthkjkmgbdahggaaPWx1
import Derived.Test.YthkjkmgbdahggaaPWx11
import Derived.Test.YthkjkmgbdahggaaPWx13
import Derived.Test.YthkjkmgbdahggaaPWx14
namespace Go.Proofs.Ythkjkmgbdahggaa.PW
open Go.RowKit Go.Proofs.YthkjkmgbdahggaaW.PrintWords Go.Proofs.YthkjkmgbdahggaaW.PrintLast Go.Proofs.YthkjkmgbdahggaaW.PrintMore Go.Proofs.Ythkjkmgbdahggaa.Sq
attribute [local go_sem] max2_int min2_int max_two min_two max_three min_three max_four min_four   -- for this text's walks alone
set_option linter.unusedVariables false
set_option linter.unusedSimpArgs false

/-! ### impl_WaysTo: function 37 -/
mutual
def impl_WaysTo.j0 : Nat → List (S95) → Int → Bool → Option ((List (S40)) × Bool)
 | 0, _, _, _ => none
 | k + 1, x0, x1, x18 => if x18 = true then (some (([] : List (S40)), false)) else ((impl_blocksOf.f k (([x0] : List (List (S95))))).bind fun t397 => ((impl_bounds.f k t397).bind fun t400 => (impl_WaysTo.l0 k x0 x1 ([] : List (S68)) t400 t400 (t400.length : Int) 0)))
def impl_WaysTo.l0 : Nat → List (S95) → Int → List (S68) → List Int → List Int → Int → Int → Option ((List (S40)) × Bool)
 | 0, _, _, _, _, _, _, _ => none
 | k + 1, x0, x1, x6, x7, x23, x24, x25 => if x25 < x24 then (if 0 ≤ x25 then (if x25 < (x23.length : Int) then (if (wrap64 (x25 + 1)) < (x7.length : Int) then (if 0 ≤ (wrap64 (x25 + 1)) then ((impl_lead.f k x0 (rd x23 x25)).bind fun t412 => (if t412 = x1 then (if x6.length < 8796093022208 then (impl_WaysTo.l0 k x0 x1 (x6 ++ [(⟨rd x23 x25, wrap64 ((rd x7 (wrap64 (x25 + 1))) - 1)⟩ : S68)]) x7 x23 x24 (wrap64 (x25 + 1))) else (none)) else (impl_WaysTo.l0 k x0 x1 x6 x7 x23 x24 (wrap64 (x25 + 1))))) else (none)) else ((impl_lead.f k x0 (rd x23 x25)).bind fun t416 => (if t416 = x1 then (if x6.length < 8796093022208 then (impl_WaysTo.l0 k x0 x1 (x6 ++ [(⟨rd x23 x25, 4294967295⟩ : S68)]) x7 x23 x24 (wrap64 (x25 + 1))) else (none)) else (impl_WaysTo.l0 k x0 x1 x6 x7 x23 x24 (wrap64 (x25 + 1)))))) else (none)) else (none)) else ((impl_set.f k x6).bind fun t403 => ((impl_limited.f t403).bind fun bt406 => (some (bt406.1, bt406.2))))
end
def impl_WaysTo.f (k : Nat) (l0 : List (S95)) (a1 : Int) : Option ((List (S40)) × Bool) := (impl_WaysOk.f k l0).bind fun t392 => (if t392 = true then ((impl_in.f a1 (-1) 99).bind fun t393 => (impl_WaysTo.j0 k l0 a1 (!t393))) else (impl_WaysTo.j0 k l0 a1 true))
theorem impl_WaysTo.mono_l : ∀ k, (∀ y0 y1 y2, LeO (impl_WaysTo.j0 k y0 y1 y2) (impl_WaysTo.j0 (k + 1) y0 y1 y2)) ∧ (∀ y0 y1 y2 y3 y4 y5 y6, LeO (impl_WaysTo.l0 k y0 y1 y2 y3 y4 y5 y6) (impl_WaysTo.l0 (k + 1) y0 y1 y2 y3 y4 y5 y6))
 | 0 => ⟨fun _ _ _ r h => by simp [impl_WaysTo.j0] at h, fun _ _ _ _ _ _ _ r h => by simp [impl_WaysTo.l0] at h⟩
 | k + 1 => by
  obtain ⟨ih0, ih1⟩ := impl_WaysTo.mono_l k
  refine ⟨?_, ?_⟩
  ·intro y0 y1 y2
   unfold impl_WaysTo.j0
   repeat' first
   | (with_reducible exact ih0 _ _ _)
   | (with_reducible exact ih1 _ _ _ _ _ _ _)
   | (with_reducible exact impl_WaysOk.mono _ _)
   | (with_reducible exact impl_blocksOf.mono _ _)
   | (with_reducible exact impl_bounds.mono _ _)
   | (with_reducible exact impl_lead.mono _ _ _)
   | (with_reducible exact impl_set.mono _ _)
   | (with_reducible exact LeO.refl _)
   | (with_reducible exact LeO.none _)
   | (with_reducible refine LeO.ite ?_ ?_)
   | (with_reducible refine LeO.bind ?_ (fun _ => ?_))
   | exact ih0 _ _ _
   | exact ih1 _ _ _ _ _ _ _
   | exact impl_WaysOk.mono _ _
   | exact impl_blocksOf.mono _ _
   | exact impl_bounds.mono _ _
   | exact impl_lead.mono _ _ _
   | exact impl_set.mono _ _
   | exact LeO.none _
   | refine LeO.ite ?_ ?_
   | refine LeO.bind ?_ (fun _ => ?_)
  ·intro y0 y1 y2 y3 y4 y5 y6
   unfold impl_WaysTo.l0
   repeat' first
   | (with_reducible exact ih0 _ _ _)
   | (with_reducible exact ih1 _ _ _ _ _ _ _)
   | (with_reducible exact impl_WaysOk.mono _ _)
   | (with_reducible exact impl_blocksOf.mono _ _)
   | (with_reducible exact impl_bounds.mono _ _)
   | (with_reducible exact impl_lead.mono _ _ _)
   | (with_reducible exact impl_set.mono _ _)
   | (with_reducible exact LeO.refl _)
   | (with_reducible exact LeO.none _)
   | (with_reducible refine LeO.ite ?_ ?_)
   | (with_reducible refine LeO.bind ?_ (fun _ => ?_))
   | exact ih0 _ _ _
   | exact ih1 _ _ _ _ _ _ _
   | exact impl_WaysOk.mono _ _
   | exact impl_blocksOf.mono _ _
   | exact impl_bounds.mono _ _
   | exact impl_lead.mono _ _ _
   | exact impl_set.mono _ _
   | exact LeO.none _
   | refine LeO.ite ?_ ?_
   | refine LeO.bind ?_ (fun _ => ?_)
theorem impl_WaysTo.mono : ∀ a0 a1 k, LeO (impl_WaysTo.f k a0 a1) (impl_WaysTo.f (k + 1) a0 a1) := by
 intro a0 a1 k
 obtain ⟨ih0, ih1⟩ := impl_WaysTo.mono_l k
 unfold impl_WaysTo.f
 repeat' first
   | (with_reducible exact ih0 _ _ _)
   | (with_reducible exact ih1 _ _ _ _ _ _ _)
   | (with_reducible exact impl_WaysOk.mono _ _)
   | (with_reducible exact impl_blocksOf.mono _ _)
   | (with_reducible exact impl_bounds.mono _ _)
   | (with_reducible exact impl_lead.mono _ _ _)
   | (with_reducible exact impl_set.mono _ _)
   | (with_reducible exact LeO.refl _)
   | (with_reducible exact LeO.none _)
   | (with_reducible refine LeO.ite ?_ ?_)
   | (with_reducible refine LeO.bind ?_ (fun _ => ?_))
   | exact ih0 _ _ _
   | exact ih1 _ _ _ _ _ _ _
   | exact impl_WaysOk.mono _ _
   | exact impl_blocksOf.mono _ _
   | exact impl_bounds.mono _ _
   | exact impl_lead.mono _ _ _
   | exact impl_set.mono _ _
   | exact LeO.none _
   | refine LeO.ite ?_ ?_
   | refine LeO.bind ?_ (fun _ => ?_)
set_option maxHeartbeats 8000000 in
set_option maxRecDepth 100000 in
theorem impl_WaysTo.calls (k : Nat) (P0_ : Nat → Prop) (A0 : Option Addr) (c0 : Nat) (l0 : List (S95)) (a1 : Int) (r1 : List (S40)) (r2 : Bool) (w : World) (hs0 : Kd.V k95 95 w w.heap.size (fun k_ => P0_ k_) (.slice A0 l0.length c0) l0) (h : impl_WaysTo.f k l0 a1 = some (r1, r2)) :
  Calls Try.prog 37 #[.slice A0 l0.length c0, .int .i64 a1] w fun e w' => ∃ v0_ : Value, e = .returned (.tuple #[v0_, .bool r2]) ∧ Kd.R k40 40 w' w.heap.size (fun k_ => (w.heap.size ≤ k_)) v0_ r1 ∧ Below w.heap.size w w' := by
 have hu68 := Try.underlying68
 have HO0 := Aside0.mk (show Kd.V k95 95 w w.heap.size (fun k_ => (P0_ k_ ∨ w.heap.size ≤ k_)) (.slice A0 l0.length c0) l0 from Kd.V_mono hs0 (fun k_ hk => .inl hk))
 have HB := Aside0.mk (Below.refl w.heap.size w)
 have H : ((impl_WaysOk.f k l0).bind fun t392 => (if t392 = true then ((impl_in.f a1 (-1) 99).bind fun t393 => (impl_WaysTo.j0 k l0 a1 (!t393))) else (impl_WaysTo.j0 k l0 a1 true))) = some (r1, r2) := h
 clear h
 have HC3 := Aside0.mk H
 clear H
 go_enter Try.func37, Try.ntmps37
 go_upto_region 1 with (fail)
 go_cut [18] (fun v18 wc => ∃ (kq : Nat) (x18_2 : Bool), v18 = .bool x18_2 ∧ Aside0 (impl_WaysTo.j0 kq l0 a1 x18_2 = some (r1, r2)) ∧ Aside0 (kq ≤ k) ∧ Aside0 (Kd.V k95 95 wc w.heap.size (fun k_ => (P0_ k_ ∨ w.heap.size ≤ k_)) (.slice A0 l0.length c0) l0) ∧ Aside0 (Below w.heap.size w wc))
 case first =>
  have H := HC3.out
  clear HC3
  replace H := bd H
  obtain ⟨t392, A4, H⟩ := H
  replace H : (if t392 = true then ((impl_in.f a1 (-1) 99).bind fun t393 => (impl_WaysTo.j0 k l0 a1 (!t393))) else (impl_WaysTo.j0 k l0 a1 true)) = some (r1, r2) := H
  by_cases c5 : t392 = true
  ·subst c5
   have H1 : ((impl_in.f a1 (-1) 99).bind fun t393 => (impl_WaysTo.j0 k l0 a1 (!t393))) = some (r1, r2) := by rw [if_pos rfl] at H; exact H
   clear H
   have H := H1
   clear H1
   replace H := bd H
   obtain ⟨t393, A6, H⟩ := H
   replace H : (impl_WaysTo.j0 k l0 a1 (!t393)) = some (r1, r2) := H
   have H' := Aside0.mk H
   clear H
   go_wp2_with (first | (refine gc (some 12) Try.func82 #[.slice A0 l0.length c0] ?_; (with_reducible refine (impl_WaysOk.calls k _ _ l0 true _ ?side1 ?side2 A4.out).mono ?_); (case side1 => exact zz50 HO0); (case side2 => exact (Kd.V_reads' HO0.out).2.1); rintro e w7 ⟨rfl, hb⟩; refine ⟨_, rfl, ?_⟩; replace HO0 := Aside0.mk (Kd.V_below (zz51 HO0) hb); replace HB := Aside0.mk (below_step zz2 hb); clear hb) | (go_at_call 83; (with_reducible refine (impl_in.calls a1 (-1) 99 t393 _ A6.out).mono ?_); rintro e w' ⟨rfl, ⟨nd, rfl⟩⟩))
   go_meet
   case rel => exact ⟨_, (!t393), zz8, H', ⟨zz41⟩, ⟨zz51 HO0⟩, ⟨zz2⟩⟩
  ·replace c5 := Bool.eq_false_iff.mpr c5
   subst c5
   have H1 : (impl_WaysTo.j0 k l0 a1 true) = some (r1, r2) := by rw [if_neg (show ¬ (false = true) by decide)] at H; exact H
   clear H
   have H := H1
   clear H1
   have H' := Aside0.mk H
   clear H
   go_wp2_with (first | (refine gc (some 12) Try.func82 #[.slice A0 l0.length c0] ?_; (with_reducible refine (impl_WaysOk.calls k _ _ l0 false _ ?side1 ?side2 A4.out).mono ?_); (case side1 => exact zz50 HO0); (case side2 => exact (Kd.V_reads' HO0.out).2.1); rintro e w8 ⟨rfl, hb⟩; refine ⟨_, rfl, ?_⟩; replace HO0 := Aside0.mk (Kd.V_below (zz51 HO0) hb); replace HB := Aside0.mk (below_step zz2 hb); clear hb))
   go_meet
   case rel => exact ⟨_, (true), zz8, H', ⟨zz41⟩, ⟨zz51 HO0⟩, ⟨zz2⟩⟩
 case rest =>
  clear HC3
  try clear p2
  try clear c3
  try clear c5
  try clear c8
  obtain ⟨kq, x18_2, rfl, HA, HJ2, HO_0, HB⟩ := hcut
  cases kq with
  | zero => exact absurd HA.out (by simp [impl_WaysTo.j0])
  | succ kj2 =>
   have H := HA.out
   clear HA
   simp only [impl_WaysTo.j0] at H
   by_cases c9 : x18_2 = true
   ·subst c9
    have H1 : (some (([] : List (S40)), false)) = some (r1, r2) := by rw [if_pos rfl] at H; exact H
    clear H
    have H := H1
    clear H1
    simp only [Option.some.injEq, Prod.mk.injEq] at H
    obtain ⟨rfl, rfl⟩ := H
    go_wp2
    go_ret2
    exact ⟨_, zz6, zz45, zz2⟩
   ·replace c9 := Bool.eq_false_iff.mpr c9
    subst c9
    have H1 : ((impl_blocksOf.f kj2 (([l0] : List (List (S95))))).bind fun t397 => ((impl_bounds.f kj2 t397).bind fun t400 => (impl_WaysTo.l0 kj2 l0 a1 ([] : List (S68)) t400 t400 (t400.length : Int) 0))) = some (r1, r2) := by rw [if_neg (show ¬ (false = true) by decide)] at H; exact H
    clear H
    have H := H1
    clear H1
    obtain ⟨y394, hy394⟩ : ∃ y_ : List (List (S95)), y_ = (([l0] : List (List (S95)))) := ⟨_, rfl⟩
    replace H : ((impl_blocksOf.f kj2 y394).bind fun t397 => ((impl_bounds.f kj2 t397).bind fun t400 => (impl_WaysTo.l0 kj2 l0 a1 ([] : List (S68)) t400 t400 (t400.length : Int) 0))) = some (r1, r2) := by first | (rw [hy394]; with_reducible exact H) | (have H2_ := (Option.bind_some _ _).symm.trans H; rw [hy394]; with_reducible exact H2_) | (have H2_ := (Option.bind_some _ _).symm.trans H; with_reducible exact H2_) | with_reducible exact H | (rw [hy394]; exact H) | exact H
    have Ny394 := Aside0.mk hy394
    clear hy394
    replace H := bd H
    obtain ⟨t397, A10, H⟩ := H
    replace H : ((impl_bounds.f kj2 t397).bind fun t400 => (impl_WaysTo.l0 kj2 l0 a1 ([] : List (S68)) t400 t400 (t400.length : Int) 0)) = some (r1, r2) := H
    replace H := bd H
    obtain ⟨t400, A11, H⟩ := H
    replace H : (impl_WaysTo.l0 kj2 l0 a1 ([] : List (S68)) t400 t400 (t400.length : Int) 0) = some (r1, r2) := H
    have H' := Aside0.mk H
    clear H
    go_wp2_with (first | (refine gt 20 ?_; refine Kd.N_lit (Kd.slice 95 k95) _ 54 ?hg (N' := 20) ?hd (xs := ([l0] : List (List (S95)))) (inner := [.slice A0 l0.length c0]) (ok := (fun k_ => (P0_ k_ ∨ w.heap.size ≤ k_))) (okp := (fun k_ => (P0_ k_ ∨ w.heap.size ≤ k_))) ?hr ?hp (fun _ hk => hk) ((show ∀ k_, wc.heap.size ≤ k_ → (fun k_ => (P0_ k_ ∨ w.heap.size ≤ k_)) k_ from fun k_ hk => (.inr (Nat.le_trans (below_size zz2) hk))) _ (Nat.le_refl _)) (Below.refl _ _) (Nat.le_refl _) (by simp) ?_; (case hd => rfl); (case hg => rfl); (case hr => exact zz14); (case hp => exact (Reps.one (show Kd.FK (Kd.slice 95 k95) _ _ l0 [.slice A0 l0.length c0] from (Kd.FK_slice_mk (Kd.V_reads' (Kd.V_mono (ok' := (fun k_ => (P0_ k_ ∨ w.heap.size ≤ k_))) (HO_0.out) (fun k_ hk => hk))).2.1 (Kd.V_F (Kd.V_mono (ok' := (fun k_ => (P0_ k_ ∨ w.heap.size ≤ k_))) (HO_0.out) (fun k_ hk => hk))))) (Reps.none _ _))); intro v395 w12 ho13 hb hg_ hnew_; clear hg_ hnew_; (first | rw [← Ny394.out] at ho13 | (simp only [Int.reduceToNat] at ho13; rw [← Ny394.out] at ho13)); replace HO_0 := Aside0.mk (Kd.V_elder' (zz51 HO_0) (Kd.N_base ho13) hb); have HO396 := Aside0.mk (Kd.N_lower ho13 (below_size zz2)); replace HB := Aside0.mk (below_step zz2 hb); clear hb ho13; obtain ⟨Ao14, co14, eo14⟩ := Kd.N_slice HO396.out; subst eo14) | (refine gc (some 21) Try.func85 #[.slice Ao14 y394.length co14] ?_; (with_reducible refine (impl_blocksOf.calls kj2 _ _ y394 t397 _ ?side1 ?side2 A10.out).mono ?_); (case side1 => repeat (first | exact (Kd.N_reads' HO396.out).2.2 | (with_reducible refine Kd.C_alloc ?_ _) | (with_reducible refine Kd.C_drewN ?_ _) | (with_reducible refine Kd.C_drew ?_))); (case side2 => exact (Kd.N_reads' HO396.out).2.1); rintro e w15 ⟨v398, rfl, ho0, hb⟩; refine ⟨_, rfl, ?_⟩; replace HO_0 := Aside0.mk (Kd.V_elder' (zz51 HO_0) (Kd.R_base ho0) hb); replace HO396 := Aside0.mk (Kd.N_elder' (by (with_reducible repeat (first | apply Kd.N_alloc | apply Kd.N_drewN | apply Kd.N_drew)); exact HO396.out) (Kd.R_base ho0) hb); have HO399 := Aside0.mk (Kd.R_lower (Kd.R_newM (M := fun k_ => (w.heap.size ≤ k_)) ho0 (below_size zz2) (fun k_ h_ => h_)) (below_size zz2)); replace HB := Aside0.mk (below_step zz2 hb); clear hb ho0; obtain ⟨Ao16, co16, eo16⟩ := Kd.R_slice HO399.out; subst eo16) | (refine gc (some 22) Try.func84 #[.slice Ao16 t397.length co16] ?_; (with_reducible refine (impl_bounds.calls kj2 _ _ t397 t400 _ ?side1 ?side2 A11.out).mono ?_); (case side1 => exact zz33 HO399); (case side2 => exact zz42 HO399); rintro e w17 ⟨v401, rfl, ho0, hb⟩; refine ⟨_, rfl, ?_⟩; replace HO_0 := Aside0.mk (Kd.V_elder' (zz51 HO_0) (Kd.R_base ho0) hb); replace HO396 := Aside0.mk (Kd.N_elder' (by (with_reducible repeat (first | apply Kd.N_alloc | apply Kd.N_drewN | apply Kd.N_drew)); exact HO396.out) (Kd.R_base ho0) hb); replace HO399 := Aside0.mk (Kd.R_below (zz13 HO399) hb); have HO402 := Aside0.mk (Kd.R_lower (Kd.R_newM (M := fun k_ => (w.heap.size ≤ k_)) ho0 (below_size zz2) (fun k_ h_ => h_)) (below_size zz2)); replace HB := Aside0.mk (below_step zz2 hb); clear hb ho0; obtain ⟨Ao18, co18, eo18⟩ := Kd.R_slice HO402.out; subst eo18))
    go_loopg [6, 25] kj2 (fun kq v6 v25 w' => ∃ (x6_2 : List (S68)) (x25_2 : Int), v25 = .int .i64 x25_2 ∧ Aside0 (impl_WaysTo.l0 kq l0 a1 x6_2 t400 t400 (t400.length : Int) x25_2 = some (r1, r2)) ∧ Aside0 (kq ≤ kj2) ∧ Aside0 (Kd.V k95 95 w' w.heap.size (fun k_ => (P0_ k_ ∨ w.heap.size ≤ k_) ∧ some k_ ≠ (v6 : Value).ownBlock ∧ some k_ ≠ ((.slice Ao18 t400.length co18) : Value).ownBlock ∧ some k_ ≠ ((.slice Ao18 t400.length co18) : Value).ownBlock) (.slice A0 l0.length c0) l0) ∧ Aside0 (Kd.R k68 68 w' w.heap.size (fun k_ => (w.heap.size ≤ k_)) v6 x6_2) ∧ Aside0 (Kd.R (Kd.int .i64) 3 w' w.heap.size (fun k_ => (w.heap.size ≤ k_)) (.slice Ao18 t400.length co18) t400) ∧ Aside0 (Kd.R (Kd.int .i64) 3 w' w.heap.size (fun k_ => (w.heap.size ≤ k_)) (.slice Ao18 t400.length co18) t400) ∧ Aside0 (Below w.heap.size w w'))
    case atStart => exact ⟨(([] : List (S68))), (0), zz8, H', ⟨Nat.le_refl _⟩, ⟨by (with_reducible repeat (first | apply Kd.V_alloc | apply Kd.V_drewN | apply Kd.V_drew)); exact Kd.V_mono HO_0.out (fun _ hk => ⟨hk.1.1.1, ⟨(by simp [Value.ownBlock]), ⟨hk.2, hk.2⟩⟩⟩)⟩, ⟨zz45⟩, ⟨zz35 HO402⟩, ⟨zz35 HO402⟩, ⟨zz2⟩⟩
    case round =>
     clear H'
     try clear p2
     try clear c3
     try clear c5
     try clear c8
     try clear c9
     try clear p2
     obtain ⟨x6_2, x25_2, rfl, HA, HK2, HO_0, HO_6, HO_7, HO_23, HB⟩ := hrel
     cases gk with
     | zero => exact absurd HA.out (by simp [impl_WaysTo.l0])
     | succ k2 =>
      have H := HA.out
      clear HA
      simp only [impl_WaysTo.l0] at H
      replace H := ic H
      rcases H with ⟨c19b0, H⟩ | ⟨c19b0, H⟩
      ·replace H := gd H
       obtain ⟨c20b0, H⟩ := H
       replace H := gd H
       obtain ⟨c21b0, H⟩ := H
       replace H := ic H
       rcases H with ⟨c22b0, H⟩ | ⟨c22b0, H⟩
       ·obtain ⟨ji23, hji23⟩ : ∃ j_ : Int, (wrap64 (x25_2 + 1)) = j_ := ⟨_, rfl⟩
        replace H : (if 0 ≤ (ji23) then ((impl_lead.f k2 l0 (rd t400 x25_2)).bind fun t412 => (if t412 = a1 then (if x6_2.length < 8796093022208 then (impl_WaysTo.l0 k2 l0 a1 (x6_2 ++ [(⟨rd t400 x25_2, wrap64 ((rd t400 (ji23)) - 1)⟩ : S68)]) t400 t400 (t400.length : Int) ji23) else (none)) else (impl_WaysTo.l0 k2 l0 a1 x6_2 t400 t400 (t400.length : Int) ji23))) else (none)) = some (r1, r2) := by first | (rw [hji23] at H; exact H) | (simp only [hji23] at H ⊢; exact H)
        (try rw [hji23] at c22b0)
        have hji23w : (IntKind.i64.wrap (x25_2 + 1)) = ji23 := (i64_w _).trans hji23
        replace H := gd H
        obtain ⟨c24b0, H⟩ := H
        replace H := bd H
        obtain ⟨t412, A25, H⟩ := H
        replace H : (if t412 = a1 then (if x6_2.length < 8796093022208 then (impl_WaysTo.l0 k2 l0 a1 (x6_2 ++ [(⟨rd t400 x25_2, wrap64 ((rd t400 (ji23)) - 1)⟩ : S68)]) t400 t400 (t400.length : Int) ji23) else (none)) else (impl_WaysTo.l0 k2 l0 a1 x6_2 t400 t400 (t400.length : Int) ji23)) = some (r1, r2) := H
        by_cases c26 : t412 = a1
        ·rw [if_pos c26] at H
         have c26b0 : (t412 == a1) = true := beq_iff_eq.mpr c26
         have c26b1 : (t412 != a1) = false := bne_eq_false_iff_eq.mpr c26
         clear c26
         replace H := gp H
         obtain ⟨c27, H⟩ := H
         have LMc27 := Aside0.mk c27
         clear c27
         obtain ⟨y413, hy413⟩ : ∃ y_ : List (S68), y_ = (x6_2 ++ [(⟨rd t400 x25_2, wrap64 ((rd t400 (ji23)) - 1)⟩ : S68)]) := ⟨_, rfl⟩
         replace H : (impl_WaysTo.l0 k2 l0 a1 y413 t400 t400 (t400.length : Int) ji23) = some (r1, r2) := by first | (rw [hy413]; with_reducible exact H) | (have H2_ := (Option.bind_some _ _).symm.trans H; rw [hy413]; with_reducible exact H2_) | (have H2_ := (Option.bind_some _ _).symm.trans H; with_reducible exact H2_) | with_reducible exact H | (rw [hy413]; exact H) | exact H
         have Ny413 := Aside0.mk hy413
         clear hy413
         have H' := Aside0.mk H
         clear H
         have p410 : 0 ≤ (x25_2 : Int) := da
         have q410 : x25_2 < (t400.length : Int) := da
         obtain ⟨ad410, e410, hx410_0⟩ := Kd.at_int (Kd.R_reads' HO_23.out).2.2 x25_2 p410 q410
         cases e410
         replace p410 := eq_true p410
         replace q410 := eq_true q410
         have p411 : 0 ≤ ((ji23) : Int) := da
         have q411 : (ji23) < (t400.length : Int) := da
         obtain ⟨ad411, e411, hx411_0⟩ := Kd.at_int (Kd.R_reads' HO_7.out).2.2 (ji23) p411 q411
         obtain rfl : ad410 = ad411 := (by injection e411)
         replace p411 := eq_true p411
         replace q411 := eq_true q411
         go_wp2_with (first | (refine gc (some 43) Try.func86 #[.slice A0 l0.length c0, .int .i64 (rd t400 x25_2)] ?_; (with_reducible refine (impl_lead.calls k2 _ _ l0 (rd t400 x25_2) t412 _ ?side1 ?side2 A25.out).mono ?_); (case side1 => exact zz50 HO_0); (case side2 => exact (Kd.V_reads' HO_0.out).2.1); rintro e w28 ⟨rfl, hb⟩; refine ⟨_, rfl, ?_⟩; replace HO_0 := Aside0.mk (Kd.V_below (zz51 HO_0) hb); replace HO_6 := Aside0.mk (Kd.R_below (zz13 HO_6) hb); replace HO_7 := Aside0.mk (Kd.R_below (zz13 HO_7) hb); replace HO_23 := Aside0.mk (Kd.R_below (zz13 HO_23) hb); replace HB := Aside0.mk (below_step zz2 hb); clear hb) | ((with_reducible refine gate_builtin (b := .append) (xs := #[.tmp 46, .tmp 50]) rfl ?_); at_builtin; refine Kd.R_append k68 (w0 := w) w.heap.size rfl (.tmp 46) (.tmp 50) 75 68 (.agg #[(.int .i64 0), (.int .i64 0)]) 16 rfl Try.underlying75 info68 rfl (by decide) (by omega) u6 x6_2 (⟨rd t400 x25_2, wrap64 ((rd t400 (ji23)) - 1)⟩ : S68) [.int .i64 (rd t400 x25_2), .int .i64 (wrap64 ((rd t400 (ji23)) - 1))] (fun k_ => (w.heap.size ≤ k_)) (fun _ => False) rfl rfl ?aP (fun _ hk => hk.elim) ?aF ?aO ?aB ?aS ?aL ?_; (case aP => exact k68_mkM _ _ _ (⟨rd t400 x25_2, wrap64 ((rd t400 (ji23)) - 1)⟩ : S68)); (case aB => exact zz2); (case aF => exact zz52); (case aO => exact zz13 HO_6); (case aS => exact zz23); (case aL => exact zz9 LMc27); intro v414 w29 ho hb hg hat; rw [← Ny413.out] at ho; replace HO_0 := Aside0.mk (Kd.V_afterv (ok := (fun k_ => (P0_ k_ ∨ w.heap.size ≤ k_) ∧ some k_ ≠ (.slice (some ad410) t400.length co18 : Value).ownBlock ∧ some k_ ≠ (.slice (some ad410) t400.length co18 : Value).ownBlock)) (zz53 HO_0) hg hat); replace HO_7 := Aside0.mk (Kd.R_over' (zz13 HO_7) (Kd.R_typed (zz13 HO_6)) (by decide) hg); replace HO_23 := Aside0.mk (Kd.R_over' (zz13 HO_23) (Kd.R_typed (zz13 HO_6)) (by decide) hg); replace HB := Aside0.mk hb; have HO415 := Aside0.mk ho; clear HO_6 ho hb hg hat))
         go_roundg k2
         case measure => have := HJ2.out; have := HK2.out; omega
         case rel => exact ⟨(y413), (ji23), (by first | rfl | (simp; done) | (simp only [← hji23] <;> (first | rfl | simp)) | (simp [*]; done)), (by first | exact H' | (rw [hji23]; exact H') | (simp only [hji23]; exact H') | (simp only [← hji23] at H'; exact H')), ⟨zz16 HJ2 HK2⟩, ⟨zz54 HO_0⟩, ⟨zz13 HO415⟩, ⟨zz13 HO_7⟩, ⟨zz13 HO_23⟩, ⟨zz2⟩⟩
        ·rw [if_neg c26] at H
         have c26b0 : (t412 == a1) = false := beq_eq_false_iff_ne.mpr c26
         have c26b1 : (t412 != a1) = true := bne_iff_ne.mpr c26
         have H' := Aside0.mk H
         clear H
         have p410 : 0 ≤ (x25_2 : Int) := da
         have q410 : x25_2 < (t400.length : Int) := da
         obtain ⟨ad410, e410, hx410_0⟩ := Kd.at_int (Kd.R_reads' HO_23.out).2.2 x25_2 p410 q410
         cases e410
         replace p410 := eq_true p410
         replace q410 := eq_true q410
         have p411 : 0 ≤ ((ji23) : Int) := da
         have q411 : (ji23) < (t400.length : Int) := da
         obtain ⟨ad411, e411, hx411_0⟩ := Kd.at_int (Kd.R_reads' HO_7.out).2.2 (ji23) p411 q411
         obtain rfl : ad410 = ad411 := (by injection e411)
         replace p411 := eq_true p411
         replace q411 := eq_true q411
         go_wp2_with (first | (refine gc (some 43) Try.func86 #[.slice A0 l0.length c0, .int .i64 (rd t400 x25_2)] ?_; (with_reducible refine (impl_lead.calls k2 _ _ l0 (rd t400 x25_2) t412 _ ?side1 ?side2 A25.out).mono ?_); (case side1 => exact zz50 HO_0); (case side2 => exact (Kd.V_reads' HO_0.out).2.1); rintro e w30 ⟨rfl, hb⟩; refine ⟨_, rfl, ?_⟩; replace HO_0 := Aside0.mk (Kd.V_below (zz51 HO_0) hb); replace HO_6 := Aside0.mk (Kd.R_below (zz13 HO_6) hb); replace HO_7 := Aside0.mk (Kd.R_below (zz13 HO_7) hb); replace HO_23 := Aside0.mk (Kd.R_below (zz13 HO_23) hb); replace HB := Aside0.mk (below_step zz2 hb); clear hb))
         go_roundg k2
         case measure => have := HJ2.out; have := HK2.out; omega
         case rel => exact ⟨(x6_2), (ji23), (by first | rfl | (simp; done) | (simp only [← hji23] <;> (first | rfl | simp)) | (simp [*]; done)), (by first | exact H' | (rw [hji23]; exact H') | (simp only [hji23]; exact H') | (simp only [← hji23] at H'; exact H')), ⟨zz16 HJ2 HK2⟩, ⟨zz51 HO_0⟩, ⟨zz13 HO_6⟩, ⟨zz13 HO_7⟩, ⟨zz13 HO_23⟩, ⟨zz2⟩⟩
       ·replace H := Option.bind_eq_some_iff.mp H
        obtain ⟨t416, A310, H⟩ := H
        replace H : (if t416 = a1 then (if x6_2.length < 8796093022208 then (impl_WaysTo.l0 k2 l0 a1 (x6_2 ++ [(⟨rd t400 x25_2, 4294967295⟩ : S68)]) t400 t400 (t400.length : Int) (wrap64 (x25_2 + 1))) else (none)) else (impl_WaysTo.l0 k2 l0 a1 x6_2 t400 t400 (t400.length : Int) (wrap64 (x25_2 + 1)))) = some (r1, r2) := H
        have A31 := Aside0.mk A310
        clear A310
        by_cases c32 : t416 = a1
        ·rw [if_pos c32] at H
         have c32b0 : (t416 == a1) = true := beq_iff_eq.mpr c32
         have c32b1 : (t416 != a1) = false := bne_eq_false_iff_eq.mpr c32
         clear c32
         replace H := gp H
         obtain ⟨c33, H⟩ := H
         have LMc33 := Aside0.mk c33
         clear c33
         obtain ⟨y417, hy417⟩ : ∃ y_ : List (S68), y_ = (x6_2 ++ [(⟨rd t400 x25_2, 4294967295⟩ : S68)]) := ⟨_, rfl⟩
         replace H : (impl_WaysTo.l0 k2 l0 a1 y417 t400 t400 (t400.length : Int) (wrap64 (x25_2 + 1))) = some (r1, r2) := by first | (rw [hy417]; with_reducible exact H) | (have H2_ := (Option.bind_some _ _).symm.trans H; rw [hy417]; with_reducible exact H2_) | (have H2_ := (Option.bind_some _ _).symm.trans H; with_reducible exact H2_) | with_reducible exact H | (rw [hy417]; exact H) | exact H
         have Ny417 := Aside0.mk hy417
         clear hy417
         have H' := Aside0.mk H
         clear H
         have p410 : 0 ≤ (x25_2 : Int) := da
         have q410 : x25_2 < (t400.length : Int) := da
         obtain ⟨ad410, e410, hx410_0⟩ := Kd.at_int (Kd.R_reads' HO_23.out).2.2 x25_2 p410 q410
         cases e410
         replace p410 := eq_true p410
         replace q410 := eq_true q410
         go_wp2_with (first | (refine gc (some 43) Try.func86 #[.slice A0 l0.length c0, .int .i64 (rd t400 x25_2)] ?_; (with_reducible refine (impl_lead.calls k2 _ _ l0 (rd t400 x25_2) t416 _ ?side1 ?side2 A31.out).mono ?_); (case side1 => exact zz50 HO_0); (case side2 => exact (Kd.V_reads' HO_0.out).2.1); rintro e w34 ⟨rfl, hb⟩; refine ⟨_, rfl, ?_⟩; replace HO_0 := Aside0.mk (Kd.V_below (zz51 HO_0) hb); replace HO_6 := Aside0.mk (Kd.R_below (zz13 HO_6) hb); replace HO_7 := Aside0.mk (Kd.R_below (zz13 HO_7) hb); replace HO_23 := Aside0.mk (Kd.R_below (zz13 HO_23) hb); replace HB := Aside0.mk (below_step zz2 hb); clear hb) | ((with_reducible refine gate_builtin (b := .append) (xs := #[.tmp 46, .tmp 50]) rfl ?_); at_builtin; refine Kd.R_append k68 (w0 := w) w.heap.size rfl (.tmp 46) (.tmp 50) 75 68 (.agg #[(.int .i64 0), (.int .i64 0)]) 16 rfl Try.underlying75 info68 rfl (by decide) (by omega) u6 x6_2 (⟨rd t400 x25_2, 4294967295⟩ : S68) [.int .i64 (rd t400 x25_2), .int .i64 4294967295] (fun k_ => (w.heap.size ≤ k_)) (fun _ => False) rfl rfl ?aP (fun _ hk => hk.elim) ?aF ?aO ?aB ?aS ?aL ?_; (case aP => exact k68_mkM _ _ _ (⟨rd t400 x25_2, 4294967295⟩ : S68)); (case aB => exact zz2); (case aF => exact zz52); (case aO => exact zz13 HO_6); (case aS => exact zz23); (case aL => exact zz9 LMc33); intro v418 w35 ho hb hg hat; rw [← Ny417.out] at ho; replace HO_0 := Aside0.mk (Kd.V_afterv (ok := (fun k_ => (P0_ k_ ∨ w.heap.size ≤ k_) ∧ some k_ ≠ (.slice (some ad410) t400.length co18 : Value).ownBlock ∧ some k_ ≠ (.slice (some ad410) t400.length co18 : Value).ownBlock)) (zz53 HO_0) hg hat); replace HO_7 := Aside0.mk (Kd.R_over' (zz13 HO_7) (Kd.R_typed (zz13 HO_6)) (by decide) hg); replace HO_23 := Aside0.mk (Kd.R_over' (zz13 HO_23) (Kd.R_typed (zz13 HO_6)) (by decide) hg); replace HB := Aside0.mk hb; have HO419 := Aside0.mk ho; clear HO_6 ho hb hg hat))
         go_roundg k2
         case measure => have := HJ2.out; have := HK2.out; omega
         case rel => exact ⟨(y417), (wrap64 (x25_2 + 1)), zz8, H', ⟨zz16 HJ2 HK2⟩, ⟨zz54 HO_0⟩, ⟨zz13 HO419⟩, ⟨zz13 HO_7⟩, ⟨zz13 HO_23⟩, ⟨zz2⟩⟩
        ·rw [if_neg c32] at H
         have c32b0 : (t416 == a1) = false := beq_eq_false_iff_ne.mpr c32
         have c32b1 : (t416 != a1) = true := bne_iff_ne.mpr c32
         have H' := Aside0.mk H
         clear H
         have p410 : 0 ≤ (x25_2 : Int) := da
         have q410 : x25_2 < (t400.length : Int) := da
         obtain ⟨ad410, e410, hx410_0⟩ := Kd.at_int (Kd.R_reads' HO_23.out).2.2 x25_2 p410 q410
         cases e410
         replace p410 := eq_true p410
         replace q410 := eq_true q410
         go_wp2_with (first | (refine gc (some 43) Try.func86 #[.slice A0 l0.length c0, .int .i64 (rd t400 x25_2)] ?_; (with_reducible refine (impl_lead.calls k2 _ _ l0 (rd t400 x25_2) t416 _ ?side1 ?side2 A31.out).mono ?_); (case side1 => exact zz50 HO_0); (case side2 => exact (Kd.V_reads' HO_0.out).2.1); rintro e w36 ⟨rfl, hb⟩; refine ⟨_, rfl, ?_⟩; replace HO_0 := Aside0.mk (Kd.V_below (zz51 HO_0) hb); replace HO_6 := Aside0.mk (Kd.R_below (zz13 HO_6) hb); replace HO_7 := Aside0.mk (Kd.R_below (zz13 HO_7) hb); replace HO_23 := Aside0.mk (Kd.R_below (zz13 HO_23) hb); replace HB := Aside0.mk (below_step zz2 hb); clear hb))
         go_roundg k2
         case measure => have := HJ2.out; have := HK2.out; omega
         case rel => exact ⟨(x6_2), (wrap64 (x25_2 + 1)), zz8, H', ⟨zz16 HJ2 HK2⟩, ⟨zz51 HO_0⟩, ⟨zz13 HO_6⟩, ⟨zz13 HO_7⟩, ⟨zz13 HO_23⟩, ⟨zz2⟩⟩
      ·replace H := Option.bind_eq_some_iff.mp H
       obtain ⟨t403, A370, H⟩ := H
       replace H : ((impl_limited.f t403).bind fun bt406 => (some (bt406.1, bt406.2))) = some (r1, r2) := H
       have A37 := Aside0.mk A370
       clear A370
       replace H := bd H
       obtain ⟨⟨t406, t409⟩, A38, H⟩ := H
       replace H : (some (t406, t409)) = some (r1, r2) := H
       simp only [Option.some.injEq, Prod.mk.injEq] at H
       obtain ⟨rfl, rfl⟩ := H
       obtain ⟨Ao39, co39, eo39⟩ := Kd.R_slice HO_6.out
       subst eo39
       go_wp2_with (first | (refine gc (some 54) Try.func52 #[.slice Ao39 x6_2.length co39] ?_; (with_reducible refine (impl_set.calls k2 _ _ x6_2 t403 _ ?side1 ?side2 A37.out).mono ?_); (case side1 => exact zz33 HO_6); (case side2 => exact zz42 HO_6); rintro e w40 ⟨v404, rfl, ho0, hb⟩; refine ⟨_, rfl, ?_⟩; replace HO_0 := Aside0.mk (Kd.V_elder' (zz51 HO_0) (Kd.R_base ho0) hb); replace HO_6 := Aside0.mk (Kd.R_below (zz13 HO_6) hb); replace HO_7 := Aside0.mk (Kd.R_below (zz13 HO_7) hb); replace HO_23 := Aside0.mk (Kd.R_below (zz13 HO_23) hb); have HO405 := Aside0.mk (Kd.R_lower (Kd.R_newM (M := fun k_ => (w.heap.size ≤ k_)) ho0 (below_size zz2) (fun k_ h_ => h_)) (below_size zz2)); replace HB := Aside0.mk (below_step zz2 hb); clear hb ho0; obtain ⟨Ao41, co41, eo41⟩ := Kd.R_slice HO405.out; subst eo41) | (refine gc (some 55) Try.func64 #[.slice Ao41 t403.length co41] ?_; (with_reducible refine (impl_limited.calls (fun k_ => some k_ = (.slice Ao41 t403.length co41 : Value).ownBlock) (.slice Ao41 t403.length co41) t403 t406 t409 w _ ?side1 ?side2 A38.out).mono ?_); (case side1 => exact zz2); (case side2 => exact zz36 HO405); rintro e w42 ⟨v407, rfl, ho0, hb, hkp⟩; refine ⟨_, rfl, ?_⟩; replace HO_0 := Aside0.mk (Kd.V_mono (ok' := fun k_ => (P0_ k_ ∨ w.heap.size ≤ k_) ∧ some k_ ≠ (.slice Ao39 x6_2.length co39 : Value).ownBlock ∧ some k_ ≠ (.slice Ao18 t400.length co18 : Value).ownBlock ∧ some k_ ≠ (.slice Ao18 t400.length co18 : Value).ownBlock ∧ some k_ ≠ (v407 : Value).ownBlock) (Kd.V_keptB (HO_0.out) hkp (fun k_ hk_ hs_ => (hk_.2) hs_)) (fun k_ hk_ => ⟨hk_.1.1.1, hk_.1.1.2.1, hk_.1.1.2.2.1, hk_.1.1.2.2.2, fun e_ => Or.elim (ho0.1 k_ e_.symm) (fun hs_ => hk_.2.1 hs_) (fun hn_ => Nat.not_le.2 hk_.2.2 hn_)⟩)); replace HO_6 := Aside0.mk (Kd.R_mono (ok' := fun k_ => (w.heap.size ≤ k_)) (Kd.R_keptB ((Kd.R_apart' HO_6.out (Kd.R_typed HO405.out) (by decide))) hkp (fun k_ hk_ hs_ => (hk_.2) hs_)) (fun k_ hk_ => hk_.1.1)); replace HO_7 := Aside0.mk (Kd.R_mono (ok' := fun k_ => (w.heap.size ≤ k_)) (Kd.R_keptB ((Kd.R_apart' HO_7.out (Kd.R_typed HO405.out) (by decide))) hkp (fun k_ hk_ hs_ => (hk_.2) hs_)) (fun k_ hk_ => hk_.1.1)); replace HO_23 := Aside0.mk (Kd.R_mono (ok' := fun k_ => (w.heap.size ≤ k_)) (Kd.R_keptB ((Kd.R_apart' HO_23.out (Kd.R_typed HO405.out) (by decide))) hkp (fun k_ hk_ hs_ => (hk_.2) hs_)) (fun k_ hk_ => hk_.1.1)); have HO408 := Aside0.mk (Kd.R_mono (ok' := fun k_ => (w.heap.size ≤ k_)) ho0 (fun k_ hk_ => Or.elim hk_ (fun hs_ => (HO405.out.1 k_ (hs_).symm).1) (fun hn_ => (Nat.le_trans (below_size zz2) hn_)))); replace HB := Aside0.mk hb; clear HO405 hb hkp ho0))
       go_ret2
       exact ⟨_, zz6, zz13 HO408, zz2⟩

/-! ### laws_eqWay: function 87 -/
def laws_eqWay.f (a0_0 : Int) (a0_1 : Int) (a0_2 : Int) (a1_0 : Int) (a1_1 : Int) (a1_2 : Int) : Option (Bool) := (laws_eqBlock.f a0_0 a0_1 a1_0 a1_1).bind fun t422 => (if t422 = true then (if a0_2 = a1_2 then (some true) else (some false)) else (some false))
set_option maxHeartbeats 8000000 in
set_option maxRecDepth 100000 in
theorem laws_eqWay.calls (a0_0 : Int) (a0_1 : Int) (a0_2 : Int) (a1_0 : Int) (a1_1 : Int) (a1_2 : Int) (r : Bool) (w : World) (h : laws_eqWay.f a0_0 a0_1 a0_2 a1_0 a1_1 a1_2 = some r) :
  Calls Try.prog 87 #[.agg #[.int .i64 a0_0, .int .i64 a0_1, .int .i64 a0_2], .agg #[.int .i64 a1_0, .int .i64 a1_1, .int .i64 a1_2]] w fun e w' => e = .returned (.bool r) ∧ Below w.heap.size w w' := by
 have hu95 := Try.underlying95
 have hu40 := Try.underlying40
 have HB := Aside0.mk (Below.refl w.heap.size w)
 have H : ((laws_eqBlock.f a0_0 a0_1 a1_0 a1_1).bind fun t422 => (if t422 = true then (if a0_2 = a1_2 then (some true) else (some false)) else (some false))) = some r := h
 clear h
 replace H := bd H
 obtain ⟨t422, A3, H⟩ := H
 replace H : (if t422 = true then (if a0_2 = a1_2 then (some true) else (some false)) else (some false)) = some r := H
 by_cases c4 : t422 = true
 ·subst c4
  have H1 : (if a0_2 = a1_2 then (some true) else (some false)) = some r := by rw [if_pos rfl] at H; exact H
  clear H
  have H := H1
  clear H1
  by_cases c5 : a0_2 = a1_2
  ·rw [if_pos c5] at H
   have c5b0 : (a0_2 == a1_2) = true := beq_iff_eq.mpr c5
   have c5b1 : (a0_2 != a1_2) = false := bne_eq_false_iff_eq.mpr c5
   clear c5
   obtain rfl := Option.some.inj H
   go_enter Try.func87, Try.ntmps87
   go_wp2_with (first | (refine be 2 #[.int .i64 a0_0, .int .i64 a0_1, .int .i64 a0_2] 95 ?_; intro gb420 hg w6 hbox hb; have BK420 := Aside0.mk hbox; have GW420 := Aside0.mk (zz1 : w.heap.size ≤ gb420); have GE420 := Aside0.mk (zz1 : w.heap.size ≤ gb420); replace HB := Aside0.mk (below_step zz2 hb); clear hb hbox hg) | (refine be 3 #[.int .i64 a1_0, .int .i64 a1_1, .int .i64 a1_2] 95 ?_; intro gb421 hg w7 hbox hb; have BK421 := Aside0.mk hbox; have GW421 := Aside0.mk (zz3 GE420 : w.heap.size ≤ gb421); have GE421 := Aside0.mk (zz3 GE420 : w.heap.size ≤ gb421); replace HB := Aside0.mk (below_step (zz4 GE420) hb); have NB420_421 := Aside0.mk (by rw [hg]; exact Nat.ne_of_lt (blk_lt (g := gb420) (o := .cells #[.int .i64 a0_0, .int .i64 a0_1, .int .i64 a0_2] 95 (0, 0)) (zz5 BK420)) : gb420 ≠ gb421); have NB421_420 := Aside0.mk (by rw [hg]; exact Nat.ne_of_gt (blk_lt (g := gb420) (o := .cells #[.int .i64 a0_0, .int .i64 a0_1, .int .i64 a0_2] 95 (0, 0)) (zz5 BK420)) : gb421 ≠ gb420); replace BK420 := Aside0.mk (blk_below (g := gb420) (o := .cells #[.int .i64 a0_0, .int .i64 a0_1, .int .i64 a0_2] 95 (0, 0)) (zz5 BK420) hb); clear hb hbox hg; have hnb8 := NB420_421.out; have hnc8 := NB421_420.out; have hcz9_0 : w7.cell? ⟨gb420, 0, none⟩ = some (.int .i64 a0_0) := (blk_cell BK420.out 0).trans rfl; have hcz9_1 : w7.cell? ⟨gb420, 1, none⟩ = some (.int .i64 a0_1) := (blk_cell BK420.out 1).trans rfl; have hcz9_2 : w7.cell? ⟨gb420, 2, none⟩ = some (.int .i64 a0_2) := (blk_cell BK420.out 2).trans rfl; have hfz9_0 := blk_frozen BK420.out 0; have hfz9_1 := blk_frozen BK420.out 1; have hfz9_2 := blk_frozen BK420.out 2; have hcz10_0 : w7.cell? ⟨gb421, 0, none⟩ = some (.int .i64 a1_0) := (blk_cell BK421.out 0).trans rfl; have hcz10_1 : w7.cell? ⟨gb421, 1, none⟩ = some (.int .i64 a1_1) := (blk_cell BK421.out 1).trans rfl; have hcz10_2 : w7.cell? ⟨gb421, 2, none⟩ = some (.int .i64 a1_2) := (blk_cell BK421.out 2).trans rfl; have hfz10_0 := blk_frozen BK421.out 0; have hfz10_1 := blk_frozen BK421.out 1; have hfz10_2 := blk_frozen BK421.out 2) | (refine gc (some 9) Try.func61 #[.agg #[.int .i64 a0_0, .int .i64 a0_1], .agg #[.int .i64 a1_0, .int .i64 a1_1]] ?_; (with_reducible refine (laws_eqBlock.calls a0_0 a0_1 a1_0 a1_1 true _ A3.out).mono ?_); rintro e w11 ⟨rfl, hb⟩; refine ⟨_, rfl, ?_⟩; replace BK420 := Aside0.mk (blk_below (g := gb420) (o := .cells #[.int .i64 a0_0, .int .i64 a0_1, .int .i64 a0_2] 95 (0, 0)) (zz5 BK420) hb); replace BK421 := Aside0.mk (blk_below (g := gb421) (o := .cells #[.int .i64 a1_0, .int .i64 a1_1, .int .i64 a1_2] 95 (0, 0)) (zz5 BK421) hb); replace HB := Aside0.mk (below_step (zz7 GE420 GE421) hb); clear hb; have hcz12_0 : w11.cell? ⟨gb420, 0, none⟩ = some (.int .i64 a0_0) := (blk_cell BK420.out 0).trans rfl; have hcz12_1 : w11.cell? ⟨gb420, 1, none⟩ = some (.int .i64 a0_1) := (blk_cell BK420.out 1).trans rfl; have hcz12_2 : w11.cell? ⟨gb420, 2, none⟩ = some (.int .i64 a0_2) := (blk_cell BK420.out 2).trans rfl; have hfz12_0 := blk_frozen BK420.out 0; have hfz12_1 := blk_frozen BK420.out 1; have hfz12_2 := blk_frozen BK420.out 2; have hcz13_0 : w11.cell? ⟨gb421, 0, none⟩ = some (.int .i64 a1_0) := (blk_cell BK421.out 0).trans rfl; have hcz13_1 : w11.cell? ⟨gb421, 1, none⟩ = some (.int .i64 a1_1) := (blk_cell BK421.out 1).trans rfl; have hcz13_2 : w11.cell? ⟨gb421, 2, none⟩ = some (.int .i64 a1_2) := (blk_cell BK421.out 2).trans rfl; have hfz13_0 := blk_frozen BK421.out 0; have hfz13_1 := blk_frozen BK421.out 1; have hfz13_2 := blk_frozen BK421.out 2))
   go_ret
   exact ⟨zz6, zz7 GE420 GE421⟩
  ·rw [if_neg c5] at H
   have c5b0 : (a0_2 == a1_2) = false := beq_eq_false_iff_ne.mpr c5
   have c5b1 : (a0_2 != a1_2) = true := bne_iff_ne.mpr c5
   obtain rfl := Option.some.inj H
   go_enter Try.func87, Try.ntmps87
   go_wp2_with (first | (refine be 2 #[.int .i64 a0_0, .int .i64 a0_1, .int .i64 a0_2] 95 ?_; intro gb420 hg w14 hbox hb; have BK420 := Aside0.mk hbox; have GW420 := Aside0.mk (zz1 : w.heap.size ≤ gb420); have GE420 := Aside0.mk (zz1 : w.heap.size ≤ gb420); replace HB := Aside0.mk (below_step zz2 hb); clear hb hbox hg) | (refine be 3 #[.int .i64 a1_0, .int .i64 a1_1, .int .i64 a1_2] 95 ?_; intro gb421 hg w15 hbox hb; have BK421 := Aside0.mk hbox; have GW421 := Aside0.mk (zz3 GE420 : w.heap.size ≤ gb421); have GE421 := Aside0.mk (zz3 GE420 : w.heap.size ≤ gb421); replace HB := Aside0.mk (below_step (zz4 GE420) hb); have NB420_421 := Aside0.mk (by rw [hg]; exact Nat.ne_of_lt (blk_lt (g := gb420) (o := .cells #[.int .i64 a0_0, .int .i64 a0_1, .int .i64 a0_2] 95 (0, 0)) (zz5 BK420)) : gb420 ≠ gb421); have NB421_420 := Aside0.mk (by rw [hg]; exact Nat.ne_of_gt (blk_lt (g := gb420) (o := .cells #[.int .i64 a0_0, .int .i64 a0_1, .int .i64 a0_2] 95 (0, 0)) (zz5 BK420)) : gb421 ≠ gb420); replace BK420 := Aside0.mk (blk_below (g := gb420) (o := .cells #[.int .i64 a0_0, .int .i64 a0_1, .int .i64 a0_2] 95 (0, 0)) (zz5 BK420) hb); clear hb hbox hg; have hnb16 := NB420_421.out; have hnc16 := NB421_420.out; have hcz17_0 : w15.cell? ⟨gb420, 0, none⟩ = some (.int .i64 a0_0) := (blk_cell BK420.out 0).trans rfl; have hcz17_1 : w15.cell? ⟨gb420, 1, none⟩ = some (.int .i64 a0_1) := (blk_cell BK420.out 1).trans rfl; have hcz17_2 : w15.cell? ⟨gb420, 2, none⟩ = some (.int .i64 a0_2) := (blk_cell BK420.out 2).trans rfl; have hfz17_0 := blk_frozen BK420.out 0; have hfz17_1 := blk_frozen BK420.out 1; have hfz17_2 := blk_frozen BK420.out 2; have hcz18_0 : w15.cell? ⟨gb421, 0, none⟩ = some (.int .i64 a1_0) := (blk_cell BK421.out 0).trans rfl; have hcz18_1 : w15.cell? ⟨gb421, 1, none⟩ = some (.int .i64 a1_1) := (blk_cell BK421.out 1).trans rfl; have hcz18_2 : w15.cell? ⟨gb421, 2, none⟩ = some (.int .i64 a1_2) := (blk_cell BK421.out 2).trans rfl; have hfz18_0 := blk_frozen BK421.out 0; have hfz18_1 := blk_frozen BK421.out 1; have hfz18_2 := blk_frozen BK421.out 2) | (refine gc (some 9) Try.func61 #[.agg #[.int .i64 a0_0, .int .i64 a0_1], .agg #[.int .i64 a1_0, .int .i64 a1_1]] ?_; (with_reducible refine (laws_eqBlock.calls a0_0 a0_1 a1_0 a1_1 true _ A3.out).mono ?_); rintro e w19 ⟨rfl, hb⟩; refine ⟨_, rfl, ?_⟩; replace BK420 := Aside0.mk (blk_below (g := gb420) (o := .cells #[.int .i64 a0_0, .int .i64 a0_1, .int .i64 a0_2] 95 (0, 0)) (zz5 BK420) hb); replace BK421 := Aside0.mk (blk_below (g := gb421) (o := .cells #[.int .i64 a1_0, .int .i64 a1_1, .int .i64 a1_2] 95 (0, 0)) (zz5 BK421) hb); replace HB := Aside0.mk (below_step (zz7 GE420 GE421) hb); clear hb; have hcz20_0 : w19.cell? ⟨gb420, 0, none⟩ = some (.int .i64 a0_0) := (blk_cell BK420.out 0).trans rfl; have hcz20_1 : w19.cell? ⟨gb420, 1, none⟩ = some (.int .i64 a0_1) := (blk_cell BK420.out 1).trans rfl; have hcz20_2 : w19.cell? ⟨gb420, 2, none⟩ = some (.int .i64 a0_2) := (blk_cell BK420.out 2).trans rfl; have hfz20_0 := blk_frozen BK420.out 0; have hfz20_1 := blk_frozen BK420.out 1; have hfz20_2 := blk_frozen BK420.out 2; have hcz21_0 : w19.cell? ⟨gb421, 0, none⟩ = some (.int .i64 a1_0) := (blk_cell BK421.out 0).trans rfl; have hcz21_1 : w19.cell? ⟨gb421, 1, none⟩ = some (.int .i64 a1_1) := (blk_cell BK421.out 1).trans rfl; have hcz21_2 : w19.cell? ⟨gb421, 2, none⟩ = some (.int .i64 a1_2) := (blk_cell BK421.out 2).trans rfl; have hfz21_0 := blk_frozen BK421.out 0; have hfz21_1 := blk_frozen BK421.out 1; have hfz21_2 := blk_frozen BK421.out 2))
   go_ret
   exact ⟨zz6, zz7 GE420 GE421⟩
 ·replace c4 := Bool.eq_false_iff.mpr c4
  subst c4
  have H1 : (some false) = some r := by rw [if_neg (show ¬ (false = true) by decide)] at H; exact H
  clear H
  have H := H1
  clear H1
  obtain rfl := Option.some.inj H
  go_enter Try.func87, Try.ntmps87
  go_wp2_with (first | (refine be 2 #[.int .i64 a0_0, .int .i64 a0_1, .int .i64 a0_2] 95 ?_; intro gb420 hg w22 hbox hb; have BK420 := Aside0.mk hbox; have GW420 := Aside0.mk (zz1 : w.heap.size ≤ gb420); have GE420 := Aside0.mk (zz1 : w.heap.size ≤ gb420); replace HB := Aside0.mk (below_step zz2 hb); clear hb hbox hg) | (refine be 3 #[.int .i64 a1_0, .int .i64 a1_1, .int .i64 a1_2] 95 ?_; intro gb421 hg w23 hbox hb; have BK421 := Aside0.mk hbox; have GW421 := Aside0.mk (zz3 GE420 : w.heap.size ≤ gb421); have GE421 := Aside0.mk (zz3 GE420 : w.heap.size ≤ gb421); replace HB := Aside0.mk (below_step (zz4 GE420) hb); have NB420_421 := Aside0.mk (by rw [hg]; exact Nat.ne_of_lt (blk_lt (g := gb420) (o := .cells #[.int .i64 a0_0, .int .i64 a0_1, .int .i64 a0_2] 95 (0, 0)) (zz5 BK420)) : gb420 ≠ gb421); have NB421_420 := Aside0.mk (by rw [hg]; exact Nat.ne_of_gt (blk_lt (g := gb420) (o := .cells #[.int .i64 a0_0, .int .i64 a0_1, .int .i64 a0_2] 95 (0, 0)) (zz5 BK420)) : gb421 ≠ gb420); replace BK420 := Aside0.mk (blk_below (g := gb420) (o := .cells #[.int .i64 a0_0, .int .i64 a0_1, .int .i64 a0_2] 95 (0, 0)) (zz5 BK420) hb); clear hb hbox hg; have hnb24 := NB420_421.out; have hnc24 := NB421_420.out; have hcz25_0 : w23.cell? ⟨gb420, 0, none⟩ = some (.int .i64 a0_0) := (blk_cell BK420.out 0).trans rfl; have hcz25_1 : w23.cell? ⟨gb420, 1, none⟩ = some (.int .i64 a0_1) := (blk_cell BK420.out 1).trans rfl; have hcz25_2 : w23.cell? ⟨gb420, 2, none⟩ = some (.int .i64 a0_2) := (blk_cell BK420.out 2).trans rfl; have hfz25_0 := blk_frozen BK420.out 0; have hfz25_1 := blk_frozen BK420.out 1; have hfz25_2 := blk_frozen BK420.out 2; have hcz26_0 : w23.cell? ⟨gb421, 0, none⟩ = some (.int .i64 a1_0) := (blk_cell BK421.out 0).trans rfl; have hcz26_1 : w23.cell? ⟨gb421, 1, none⟩ = some (.int .i64 a1_1) := (blk_cell BK421.out 1).trans rfl; have hcz26_2 : w23.cell? ⟨gb421, 2, none⟩ = some (.int .i64 a1_2) := (blk_cell BK421.out 2).trans rfl; have hfz26_0 := blk_frozen BK421.out 0; have hfz26_1 := blk_frozen BK421.out 1; have hfz26_2 := blk_frozen BK421.out 2) | (refine gc (some 9) Try.func61 #[.agg #[.int .i64 a0_0, .int .i64 a0_1], .agg #[.int .i64 a1_0, .int .i64 a1_1]] ?_; (with_reducible refine (laws_eqBlock.calls a0_0 a0_1 a1_0 a1_1 false _ A3.out).mono ?_); rintro e w27 ⟨rfl, hb⟩; refine ⟨_, rfl, ?_⟩; replace BK420 := Aside0.mk (blk_below (g := gb420) (o := .cells #[.int .i64 a0_0, .int .i64 a0_1, .int .i64 a0_2] 95 (0, 0)) (zz5 BK420) hb); replace BK421 := Aside0.mk (blk_below (g := gb421) (o := .cells #[.int .i64 a1_0, .int .i64 a1_1, .int .i64 a1_2] 95 (0, 0)) (zz5 BK421) hb); replace HB := Aside0.mk (below_step (zz7 GE420 GE421) hb); clear hb))
  go_ret
  exact ⟨zz6, zz7 GE420 GE421⟩

/-! ### laws_eqWayS: function 38 -/
def laws_eqWayS.l0 : Nat → List (S95) → List (S95) → Int → Option (Bool)
 | 0, _, _, _ => none
 | k + 1, x0, x1, x5 => if x5 < (x0.length : Int) then (if 0 ≤ x5 then (if x5 < (x1.length : Int) then ((laws_eqWay.f ((rd_T95 x0 x5).f0.f0) ((rd_T95 x0 x5).f0.f1) ((rd_T95 x0 x5).f1) ((rd_T95 x1 x5).f0.f0) ((rd_T95 x1 x5).f0.f1) ((rd_T95 x1 x5).f1)).bind fun t425 => (if t425 = true then (laws_eqWayS.l0 k x0 x1 (wrap64 (x5 + 1))) else (some false))) else (none)) else (none)) else (some true)
def laws_eqWayS.f (k : Nat) (l0 : List (S95)) (l1 : List (S95)) : Option (Bool) := if (l0.length : Int) = (l1.length : Int) then (laws_eqWayS.l0 k l0 l1 0) else (some false)
theorem laws_eqWayS.mono_l : ∀ k, (∀ y0 y1 y2, LeO (laws_eqWayS.l0 k y0 y1 y2) (laws_eqWayS.l0 (k + 1) y0 y1 y2))
 | 0 => fun _ _ _ r h => by simp [laws_eqWayS.l0] at h
 | k + 1 => by
  have ih0 := laws_eqWayS.mono_l k
  ·intro y0 y1 y2
   unfold laws_eqWayS.l0
   repeat' first
   | (with_reducible exact ih0 _ _ _)
   | (with_reducible exact LeO.refl _)
   | (with_reducible exact LeO.none _)
   | (with_reducible refine LeO.ite ?_ ?_)
   | (with_reducible refine LeO.bind ?_ (fun _ => ?_))
   | exact ih0 _ _ _
   | exact LeO.none _
   | refine LeO.ite ?_ ?_
   | refine LeO.bind ?_ (fun _ => ?_)
theorem laws_eqWayS.mono : ∀ a0 a1 k, LeO (laws_eqWayS.f k a0 a1) (laws_eqWayS.f (k + 1) a0 a1) := by
 intro a0 a1 k
 have ih0 := laws_eqWayS.mono_l k
 unfold laws_eqWayS.f
 repeat' first
   | (with_reducible exact ih0 _ _ _)
   | (with_reducible exact LeO.refl _)
   | (with_reducible exact LeO.none _)
   | (with_reducible refine LeO.ite ?_ ?_)
   | (with_reducible refine LeO.bind ?_ (fun _ => ?_))
   | exact ih0 _ _ _
   | exact LeO.none _
   | refine LeO.ite ?_ ?_
   | refine LeO.bind ?_ (fun _ => ?_)
def laws_eqWayS.T6 : Bool × List (List Nat × List Nat) := (true, [([], []), ([], []), ([0, 1], [0, 1]), ([2], [2]), ([], []), ([], []), ([4, 5], [4, 5]), ([6], [6]), ([3, 7], [3, 7]), ([8], [8])])
def laws_eqWayS.B6 : List Nat := [0, 0, 3, 7, 0, 0, 48, 112, 255, 511]
theorem laws_eqWayS.tab6 : rtab .any (opsOf Try.f38 6) = laws_eqWayS.T6 := by kernel_rfl
theorem laws_eqWayS.bits6 : waitsOk laws_eqWayS.T6.2 laws_eqWayS.B6 = true := by kernel_rfl
set_option maxHeartbeats 8000000 in
set_option maxRecDepth 100000 in
theorem laws_eqWayS.calls (k : Nat) (A0 : Option Addr) (c0 : Nat) (l0 : List (S95)) (A1 : Option Addr) (c1 : Nat) (l1 : List (S95)) (r : Bool) (w : World) (hr0 : Kd.C k95 w A0 l0.length l0) (hc0 : l0.length ≤ c0) (hr1 : Kd.C k95 w A1 l1.length l1) (hc1 : l1.length ≤ c1) (h : laws_eqWayS.f k l0 l1 = some r) :
  Calls Try.prog 38 #[.slice A0 l0.length c0, .slice A1 l1.length c1] w fun e w' => e = .returned (.bool r) ∧ Below w.heap.size w w' := by
 have hu95 := Try.underlying95
 have HR0 := Aside0.mk hr0
 have HC0 := Aside0.mk hc0
 clear hr0 hc0
 have HR1 := Aside0.mk hr1
 have HC1 := Aside0.mk hc1
 clear hr1 hc1
 have HB := Aside0.mk (Below.refl w.heap.size w)
 have H : (if (l0.length : Int) = (l1.length : Int) then (laws_eqWayS.l0 k l0 l1 0) else (some false)) = some r := h
 clear h
 by_cases c3 : (l0.length : Int) = (l1.length : Int)
 ·rw [if_pos c3] at H
  have c3b0 : ((l0.length : Int) == (l1.length : Int)) = true := beq_iff_eq.mpr c3
  have c3b1 : ((l0.length : Int) != (l1.length : Int)) = false := bne_eq_false_iff_eq.mpr c3
  have c3b2 : (l0.length == l1.length) = true := by first | simpa using c3 | (simp at c3 ⊢; omega)
  clear c3
  have H' := Aside0.mk H
  clear H
  go_enter Try.func38, Try.ntmps38
  go_wp2
  go_loopg [5] k (fun kq v5 w' => ∃ (x5_1 : Int), v5 = .int .i64 x5_1 ∧ Aside0 (laws_eqWayS.l0 kq l0 l1 x5_1 = some r) ∧ Aside0 (kq ≤ k) ∧ Aside0 (Below w.heap.size w w'))
  case atStart => exact ⟨(0), zz8, H', ⟨Nat.le_refl _⟩, ⟨zz2⟩⟩
  case round =>
   clear H'
   try clear c1
   try clear p2
   try clear c3
   try clear c3b0
   try clear c3b1
   try clear c3b2
   obtain ⟨x5_1, rfl, HA, HK1, HB⟩ := hrel
   cases gk with
   | zero => exact absurd HA.out (by simp [laws_eqWayS.l0])
   | succ k1 =>
    have H := HA.out
    clear HA
    simp only [laws_eqWayS.l0] at H
    replace H := ic H
    rcases H with ⟨c4b0, H⟩ | ⟨c4b0, H⟩
    ·replace H := gd H
     obtain ⟨c5b0, H⟩ := H
     replace H := gd H
     obtain ⟨c6b0, H⟩ := H
     replace H := bd H
     obtain ⟨t425, A7, H⟩ := H
     replace H : (if t425 = true then (laws_eqWayS.l0 k1 l0 l1 (wrap64 (x5_1 + 1))) else (some false)) = some r := H
     by_cases c8 : t425 = true
     ·subst c8
      have H1 : (laws_eqWayS.l0 k1 l0 l1 (wrap64 (x5_1 + 1))) = some r := by rw [if_pos rfl] at H; exact H
      clear H
      have H := H1
      clear H1
      have H' := Aside0.mk H
      clear H
      try go_wp2
      replace HB := Aside0.mk (below_drew1 HB.out)
      obtain ⟨⟨ad423, e423, hx423_0, hx423_1, hx423_2⟩, p423, q423⟩ := wi (at_T95 HR0.out x5_1)
      have hw423_2 := hx423_2
      have hw423_1 := hx423_1
      have hw423_0 := hx423_0
      cases e423
      replace hx423_0 := (HB.out.cell (World.block_lt_of_cell? w _ hx423_0)).trans hx423_0
      replace hx423_1 := (HB.out.cell (World.block_lt_of_cell? w _ hx423_1)).trans hx423_1
      replace hx423_2 := (HB.out.cell (World.block_lt_of_cell? w _ hx423_2)).trans hx423_2
      obtain ⟨⟨ad424, e424, hx424_0, hx424_1, hx424_2⟩, p424, q424⟩ := wi (at_T95 HR1.out x5_1)
      have hw424_2 := hx424_2
      have hw424_1 := hx424_1
      have hw424_0 := hx424_0
      cases e424
      replace hx424_0 := (HB.out.cell (World.block_lt_of_cell? w _ hx424_0)).trans hx424_0
      replace hx424_1 := (HB.out.cell (World.block_lt_of_cell? w _ hx424_1)).trans hx424_1
      replace hx424_2 := (HB.out.cell (World.block_lt_of_cell? w _ hx424_2)).trans hx424_2
      refine start_ (n := 10) (S := fun w' => w'.cell? (ad423.add ((x5_1).toNat * 3)) = some (.int .i64 ((rd_T95 l0 x5_1).f0.f0)) ∧ w'.cell? ⟨(ad423.add ((x5_1).toNat * 3)).block, (ad423.add ((x5_1).toNat * 3)).off + 1, none⟩ = some (.int .i64 ((rd_T95 l0 x5_1).f0.f1)) ∧ w'.cell? ⟨(ad423.add ((x5_1).toNat * 3)).block, (ad423.add ((x5_1).toNat * 3)).off + 2, none⟩ = some (.int .i64 ((rd_T95 l0 x5_1).f1)) ∧ w'.cell? (ad424.add ((x5_1).toNat * 3)) = some (.int .i64 ((rd_T95 l1 x5_1).f0.f0)) ∧ w'.cell? ⟨(ad424.add ((x5_1).toNat * 3)).block, (ad424.add ((x5_1).toNat * 3)).off + 1, none⟩ = some (.int .i64 ((rd_T95 l1 x5_1).f0.f1)) ∧ w'.cell? ⟨(ad424.add ((x5_1).toNat * 3)).block, (ad424.add ((x5_1).toNat * 3)).off + 2, none⟩ = some (.int .i64 ((rd_T95 l1 x5_1).f1))) (ds := []) (bm 10 0) (by kernel_rfl) rfl rfl ⟨((HB.out.cell (World.block_lt_of_cell? w _ hw423_0)).trans hw423_0), ((HB.out.cell (World.block_lt_of_cell? w _ hw423_1)).trans hw423_1), ((HB.out.cell (World.block_lt_of_cell? w _ hw423_2)).trans hw423_2), ((HB.out.cell (World.block_lt_of_cell? w _ hw424_0)).trans hw424_0), ((HB.out.cell (World.block_lt_of_cell? w _ hw424_1)).trans hw424_1), ((HB.out.cell (World.block_lt_of_cell? w _ hw424_2)).trans hw424_2)⟩ (fun hHeld => ?_); refine with_tabW laws_eqWayS.tab6 laws_eqWayS.bits6 (fun HT_ HW_ => ?_)
      generalize wr.drew = w9 at HB hx423_0 hx423_1 hx423_2 hx424_0 hx424_1 hx424_2 hHeld ⊢
      refine pu 0 17 (bm 10 1) ?_
      refine pu 1 18 (bm 10 3) ?_
      refine pu 2 19 (bm 10 7) ?_
      refine pu 4 21 (bm 10 23) ?_
      refine pu 5 22 (bm 10 55) ?_
      refine pu 6 23 (bm 10 119) ?_
      refine tk 3 20 (bm 10 127) ?_
      refine tk 7 24 (bm 10 255) ?_
      refine on 8 (some 25) (bm 10 511) (fun K hK => ?_)
      refine gs Try.func87 #[.agg #[.int .i64 ((rd_T95 l0 x5_1).f0.f0), .int .i64 ((rd_T95 l0 x5_1).f0.f1), .int .i64 ((rd_T95 l0 x5_1).f1)], .agg #[.int .i64 ((rd_T95 l1 x5_1).f0.f0), .int .i64 ((rd_T95 l1 x5_1).f0.f1), .int .i64 ((rd_T95 l1 x5_1).f1)]] ?_
      with_reducible refine (laws_eqWay.calls ((rd_T95 l0 x5_1).f0.f0) ((rd_T95 l0 x5_1).f0.f1) ((rd_T95 l0 x5_1).f1) ((rd_T95 l1 x5_1).f0.f0) ((rd_T95 l1 x5_1).f0.f1) ((rd_T95 l1 x5_1).f1) true _ A7.out).mono ?_
      rintro e w10 ⟨rfl, hb⟩
      refine ⟨_, rfl, ?_⟩
      replace HB := Aside0.mk (below_step zz2 hb)
      (try clear hb)
      (try clear hb2)
      (try clear hk)
      (try clear hi)
      refine hK.out _ _ ⟨((HB.out.cell (World.block_lt_of_cell? w _ hw423_0)).trans hw423_0), ((HB.out.cell (World.block_lt_of_cell? w _ hw423_1)).trans hw423_1), ((HB.out.cell (World.block_lt_of_cell? w _ hw423_2)).trans hw423_2), ((HB.out.cell (World.block_lt_of_cell? w _ hw424_0)).trans hw424_0), ((HB.out.cell (World.block_lt_of_cell? w _ hw424_1)).trans hw424_1), ((HB.out.cell (World.block_lt_of_cell? w _ hw424_2)).trans hw424_2)⟩ (fun hHeld => ?_)
      clear hK K
      refine nm 25 ?_
      refine pu 9 26 (bm 10 1023) ?_
      refine done_ (done_of HT_.out (by kernel_rfl)) ?_
      try go_wp2
      go_roundg k1
      case measure => have := HK1.out; omega
      case rel => exact ⟨(wrap64 (x5_1 + 1)), zz8, H', ⟨zz9 HK1⟩, ⟨zz2⟩⟩
     ·replace c8 := Bool.eq_false_iff.mpr c8
      subst c8
      have H1 : (some false) = some r := by rw [if_neg (show ¬ (false = true) by decide)] at H; exact H
      clear H
      have H := H1
      clear H1
      obtain rfl := Option.some.inj H
      try go_wp2
      replace HB := Aside0.mk (below_drew1 HB.out)
      obtain ⟨⟨ad423, e423, hx423_0, hx423_1, hx423_2⟩, p423, q423⟩ := wi (at_T95 HR0.out x5_1)
      have hw423_2 := hx423_2
      have hw423_1 := hx423_1
      have hw423_0 := hx423_0
      cases e423
      replace hx423_0 := (HB.out.cell (World.block_lt_of_cell? w _ hx423_0)).trans hx423_0
      replace hx423_1 := (HB.out.cell (World.block_lt_of_cell? w _ hx423_1)).trans hx423_1
      replace hx423_2 := (HB.out.cell (World.block_lt_of_cell? w _ hx423_2)).trans hx423_2
      obtain ⟨⟨ad424, e424, hx424_0, hx424_1, hx424_2⟩, p424, q424⟩ := wi (at_T95 HR1.out x5_1)
      have hw424_2 := hx424_2
      have hw424_1 := hx424_1
      have hw424_0 := hx424_0
      cases e424
      replace hx424_0 := (HB.out.cell (World.block_lt_of_cell? w _ hx424_0)).trans hx424_0
      replace hx424_1 := (HB.out.cell (World.block_lt_of_cell? w _ hx424_1)).trans hx424_1
      replace hx424_2 := (HB.out.cell (World.block_lt_of_cell? w _ hx424_2)).trans hx424_2
      refine start_ (n := 10) (S := fun w' => w'.cell? (ad423.add ((x5_1).toNat * 3)) = some (.int .i64 ((rd_T95 l0 x5_1).f0.f0)) ∧ w'.cell? ⟨(ad423.add ((x5_1).toNat * 3)).block, (ad423.add ((x5_1).toNat * 3)).off + 1, none⟩ = some (.int .i64 ((rd_T95 l0 x5_1).f0.f1)) ∧ w'.cell? ⟨(ad423.add ((x5_1).toNat * 3)).block, (ad423.add ((x5_1).toNat * 3)).off + 2, none⟩ = some (.int .i64 ((rd_T95 l0 x5_1).f1)) ∧ w'.cell? (ad424.add ((x5_1).toNat * 3)) = some (.int .i64 ((rd_T95 l1 x5_1).f0.f0)) ∧ w'.cell? ⟨(ad424.add ((x5_1).toNat * 3)).block, (ad424.add ((x5_1).toNat * 3)).off + 1, none⟩ = some (.int .i64 ((rd_T95 l1 x5_1).f0.f1)) ∧ w'.cell? ⟨(ad424.add ((x5_1).toNat * 3)).block, (ad424.add ((x5_1).toNat * 3)).off + 2, none⟩ = some (.int .i64 ((rd_T95 l1 x5_1).f1))) (ds := []) (bm 10 0) (by kernel_rfl) rfl rfl ⟨((HB.out.cell (World.block_lt_of_cell? w _ hw423_0)).trans hw423_0), ((HB.out.cell (World.block_lt_of_cell? w _ hw423_1)).trans hw423_1), ((HB.out.cell (World.block_lt_of_cell? w _ hw423_2)).trans hw423_2), ((HB.out.cell (World.block_lt_of_cell? w _ hw424_0)).trans hw424_0), ((HB.out.cell (World.block_lt_of_cell? w _ hw424_1)).trans hw424_1), ((HB.out.cell (World.block_lt_of_cell? w _ hw424_2)).trans hw424_2)⟩ (fun hHeld => ?_); refine with_tabW laws_eqWayS.tab6 laws_eqWayS.bits6 (fun HT_ HW_ => ?_)
      generalize wr.drew = w11 at HB hx423_0 hx423_1 hx423_2 hx424_0 hx424_1 hx424_2 hHeld ⊢
      refine pu 0 17 (bm 10 1) ?_
      refine pu 1 18 (bm 10 3) ?_
      refine pu 2 19 (bm 10 7) ?_
      refine pu 4 21 (bm 10 23) ?_
      refine pu 5 22 (bm 10 55) ?_
      refine pu 6 23 (bm 10 119) ?_
      refine tk 3 20 (bm 10 127) ?_
      refine tk 7 24 (bm 10 255) ?_
      refine on 8 (some 25) (bm 10 511) (fun K hK => ?_)
      refine gs Try.func87 #[.agg #[.int .i64 ((rd_T95 l0 x5_1).f0.f0), .int .i64 ((rd_T95 l0 x5_1).f0.f1), .int .i64 ((rd_T95 l0 x5_1).f1)], .agg #[.int .i64 ((rd_T95 l1 x5_1).f0.f0), .int .i64 ((rd_T95 l1 x5_1).f0.f1), .int .i64 ((rd_T95 l1 x5_1).f1)]] ?_
      with_reducible refine (laws_eqWay.calls ((rd_T95 l0 x5_1).f0.f0) ((rd_T95 l0 x5_1).f0.f1) ((rd_T95 l0 x5_1).f1) ((rd_T95 l1 x5_1).f0.f0) ((rd_T95 l1 x5_1).f0.f1) ((rd_T95 l1 x5_1).f1) false _ A7.out).mono ?_
      rintro e w12 ⟨rfl, hb⟩
      refine ⟨_, rfl, ?_⟩
      replace HB := Aside0.mk (below_step zz2 hb)
      (try clear hb)
      (try clear hb2)
      (try clear hk)
      (try clear hi)
      refine hK.out _ _ ⟨((HB.out.cell (World.block_lt_of_cell? w _ hw423_0)).trans hw423_0), ((HB.out.cell (World.block_lt_of_cell? w _ hw423_1)).trans hw423_1), ((HB.out.cell (World.block_lt_of_cell? w _ hw423_2)).trans hw423_2), ((HB.out.cell (World.block_lt_of_cell? w _ hw424_0)).trans hw424_0), ((HB.out.cell (World.block_lt_of_cell? w _ hw424_1)).trans hw424_1), ((HB.out.cell (World.block_lt_of_cell? w _ hw424_2)).trans hw424_2)⟩ (fun hHeld => ?_)
      clear hK K
      refine nm 25 ?_
      refine pu 9 26 (bm 10 1023) ?_
      refine done_ (done_of HT_.out (by kernel_rfl)) ?_
      try go_wp2
      go_ret
      exact ⟨zz6, zz2⟩
    ·obtain rfl := Option.some.inj H
     go_wp2
     go_ret
     exact ⟨zz6, zz2⟩
 ·rw [if_neg c3] at H
  have c3b0 : ((l0.length : Int) == (l1.length : Int)) = false := beq_eq_false_iff_ne.mpr c3
  have c3b1 : ((l0.length : Int) != (l1.length : Int)) = true := bne_iff_ne.mpr c3
  have c3b2 : (l0.length == l1.length) = false := by first | simpa using c3 | (simp at c3 ⊢; omega)
  obtain rfl := Option.some.inj H
  go_enter Try.func38, Try.ntmps38
  go_wp2
  go_ret
  exact ⟨zz6, zz2⟩

end Go.Proofs.Ythkjkmgbdahggaa.PW
