/- A text printed by this session's wip/myprint.py over the kit's print: contracts of functions of the given program, each at what its Lean function says. -/
import Derived.Test.YthkjkmgbdahggaaPLx0
import Derived.Test.YthkjkmgbdahggaaPLx1
import Derived.Test.YthkjkmgbdahggaaPLx6
import Derived.Test.YthkjkmgbdahggaaPLx7
import Derived.Test.YthkjkmgbdahggaaPLx9
import Derived.Test.YthkjkmgbdahggaaPLx10
import Derived.Test.YthkjkmgbdahggaaPLx11
import Derived.Test.YthkjkmgbdahggaaPLx12
namespace Go.Proofs.Ythkjkmgbdahggaa.PL
open Go.RowKit Go.Proofs.YthkjkmgbdahggaaW.PrintWords Go.Proofs.YthkjkmgbdahggaaW.PrintLast Go.Proofs.YthkjkmgbdahggaaW.PrintMore Go.Proofs.Ythkjkmgbdahggaa.Sq
attribute [local go_sem] max2_int min2_int max_two min_two max_three min_three max_four min_four   -- for this text's walks alone
set_option linter.unusedVariables false
set_option linter.unusedSimpArgs false
attribute [local go_sem high] eqA40
mutual
def impl_SetLess.j0 : Nat → List (S40) → List (S40) → Bool → Option ((List (S40)) × Bool)
 | 0, _, _, _ => none
 | k + 1, x0, x1, x18 => if x18 = true then (some (([] : List (S40)), false)) else ((impl_spans.f k x0).bind fun t454 => ((impl_union.f k t454).bind fun t457 => (impl_SetLess.l0 k x1 ([] : List (S68)) t457 (t457.length : Int) 0)))
def impl_SetLess.l0 : Nat → List (S40) → List (S68) → List (S68) → Int → Int → Option ((List (S40)) × Bool)
 | 0, _, _, _, _, _ => none
 | k + 1, x1, x6, x21, x22, x23 => if x23 < x22 then (if 0 ≤ x23 then (if x23 < (x21.length : Int) then ((impl_spans.f k x1).bind fun t469 => ((impl_union.f k t469).bind fun t472 => (impl_SetLess.l1 k x1 x6 x21 x22 x23 t472 (t472.length : Int) 0 ((rd_T68 x21 x23).f0) ((rd_T68 x21 x23).f1)))) else (none)) else (none)) else ((impl_set.f k x6).bind fun t460 => ((impl_limited.f t460).bind fun bt463 => (some (bt463.1, bt463.2))))
def impl_SetLess.l1 : Nat → List (S40) → List (S68) → List (S68) → Int → Int → List (S68) → Int → Int → Int → Int → Option ((List (S40)) × Bool)
 | 0, _, _, _, _, _, _, _, _, _, _ => none
 | k + 1, x1, x6, x21, x22, x23, x29, x30, x31, x469000, x469001 => if x31 < x30 then (if 0 ≤ x31 then (if x31 < (x29.length : Int) then (if ((rd_T68 x29 x31).f1) < x469000 then (impl_SetLess.j3 k x1 x6 x21 x22 x23 x29 x30 x31 true x469000 x469001 ((rd_T68 x29 x31).f0) ((rd_T68 x29 x31).f1)) else (impl_SetLess.j3 k x1 x6 x21 x22 x23 x29 x30 x31 (decide (((rd_T68 x29 x31).f0) > x469001)) x469000 x469001 ((rd_T68 x29 x31).f0) ((rd_T68 x29 x31).f1))) else (none)) else (none)) else (if x469000 ≤ x469001 then (if x6.length < 8796093022208 then (impl_SetLess.l0 k x1 (x6 ++ [(⟨x469000, x469001⟩ : S68)]) x21 x22 (wrap64 (x23 + 1))) else (none)) else (impl_SetLess.l0 k x1 x6 x21 x22 (wrap64 (x23 + 1))))
def impl_SetLess.j3 : Nat → List (S40) → List (S68) → List (S68) → Int → Int → List (S68) → Int → Int → Bool → Int → Int → Int → Int → Option ((List (S40)) × Bool)
 | 0, _, _, _, _, _, _, _, _, _, _, _, _, _ => none
 | k + 1, x1, x6, x21, x22, x23, x29, x30, x31, x46, x469000, x469001, x480000, x480001 => if x46 = true then (impl_SetLess.l1 k x1 x6 x21 x22 x23 x29 x30 (wrap64 (x31 + 1)) x469000 x469001) else (if x469000 < x480000 then (if x6.length < 8796093022208 then (impl_SetLess.l1 k x1 (x6 ++ [(⟨x469000, wrap64 (x480000 - 1)⟩ : S68)]) x21 x22 x23 x29 x30 (wrap64 (x31 + 1)) (wrap64 (x480001 + 1)) x469001) else (none)) else (impl_SetLess.l1 k x1 x6 x21 x22 x23 x29 x30 (wrap64 (x31 + 1)) (wrap64 (x480001 + 1)) x469001))
end
def impl_SetLess.f (k : Nat) (l0 : List (S40)) (l1 : List (S40)) : Option ((List (S40)) × Bool) := (impl_SetOk.f k l0).bind fun t452 => (if t452 = true then ((impl_SetOk.f k l1).bind fun t453 => (impl_SetLess.j0 k l0 l1 (!t453))) else (impl_SetLess.j0 k l0 l1 true))
set_option maxHeartbeats 8000000 in
set_option maxRecDepth 100000 in
theorem impl_SetLess.calls (k : Nat) (A0 : Option Addr) (c0 : Nat) (l0 : List (S40)) (A1 : Option Addr) (c1 : Nat) (l1 : List (S40)) (r1 : List (S40)) (r2 : Bool) (w : World) (hr0 : Kd.C k40 w A0 l0.length l0) (hc0 : l0.length ≤ c0) (hr1 : Kd.C k40 w A1 l1.length l1) (hc1 : l1.length ≤ c1) (h : impl_SetLess.f k l0 l1 = some (r1, r2)) :
  Calls Try.prog 31 #[.slice A0 l0.length c0, .slice A1 l1.length c1] w fun e w' => ∃ v0_ : Value, e = .returned (.tuple #[v0_, .bool r2]) ∧ Kd.R k40 40 w' w.heap.size (fun _ => True) v0_ r1 ∧ Below w.heap.size w w' := by
 have hu68 := Try.underlying68
 have HR0 := Aside0.mk hr0
 have HC0 := Aside0.mk hc0
 clear hr0 hc0
 have HR1 := Aside0.mk hr1
 have HC1 := Aside0.mk hc1
 clear hr1 hc1
 have HB := Aside0.mk (Below.refl w.heap.size w)
 have H : ((impl_SetOk.f k l0).bind fun t452 => (if t452 = true then ((impl_SetOk.f k l1).bind fun t453 => (impl_SetLess.j0 k l0 l1 (!t453))) else (impl_SetLess.j0 k l0 l1 true))) = some (r1, r2) := h
 clear h
 have HC3 := Aside0.mk H
 clear H
 go_enter Try.func31, Try.ntmps31
 go_upto_region 1 with (fail)
 go_cut [18] (fun v18 wc => ∃ (kq : Nat) (x18_2 : Bool), v18 = .bool x18_2 ∧ Aside0 (impl_SetLess.j0 kq l0 l1 x18_2 = some (r1, r2)) ∧ Aside0 (kq ≤ k) ∧ Aside0 (Below w.heap.size w wc))
 case first =>
  have H := HC3.out
  clear HC3
  replace H := bd H
  obtain ⟨t452, A4, H⟩ := H
  replace H : (if t452 = true then ((impl_SetOk.f k l1).bind fun t453 => (impl_SetLess.j0 k l0 l1 (!t453))) else (impl_SetLess.j0 k l0 l1 true)) = some (r1, r2) := H
  by_cases c5 : t452 = true
  ·subst c5
   have H1 : ((impl_SetOk.f k l1).bind fun t453 => (impl_SetLess.j0 k l0 l1 (!t453))) = some (r1, r2) := by rw [if_pos rfl] at H; exact H
   clear H
   have H := H1
   clear H1
   replace H := bd H
   obtain ⟨t453, A6, H⟩ := H
   replace H : (impl_SetLess.j0 k l0 l1 (!t453)) = some (r1, r2) := H
   have H' := Aside0.mk H
   clear H
   go_wp2_with (first | (refine gc (some 12) Try.func13 #[.slice A0 l0.length c0] ?_; (with_reducible refine (impl_SetOk.calls k _ _ l0 true _ ?side1 ?side2 A4.out).mono ?_); (case side1 => exact zz22 HR0); (case side2 => exact HC0.out); rintro e w7 ⟨rfl, hb⟩; refine ⟨_, rfl, ?_⟩; replace HB := Aside0.mk (below_step zz5 hb); clear hb) | (go_at_call 13; (with_reducible refine (impl_SetOk.calls k _ _ l1 t453 _ ?side1 ?side2 A6.out).mono ?_); (case side1 => exact zz22 HR1); (case side2 => exact HC1.out); rintro e w8 ⟨rfl, hb⟩; replace HB := Aside0.mk (below_step zz5 hb); clear hb))
   go_meet
   case rel => exact ⟨_, (!t453), zz1, H', ⟨zz26⟩, ⟨zz5⟩⟩
  ·replace c5 := Bool.eq_false_iff.mpr c5
   subst c5
   have H1 : (impl_SetLess.j0 k l0 l1 true) = some (r1, r2) := by rw [if_neg (show ¬ (false = true) by decide)] at H; exact H
   clear H
   have H := H1
   clear H1
   have H' := Aside0.mk H
   clear H
   go_wp2_with (first | (refine gc (some 12) Try.func13 #[.slice A0 l0.length c0] ?_; (with_reducible refine (impl_SetOk.calls k _ _ l0 false _ ?side1 ?side2 A4.out).mono ?_); (case side1 => exact zz22 HR0); (case side2 => exact HC0.out); rintro e w9 ⟨rfl, hb⟩; refine ⟨_, rfl, ?_⟩; replace HB := Aside0.mk (below_step zz5 hb); clear hb))
   go_meet
   case rel => exact ⟨_, (true), zz1, H', ⟨zz26⟩, ⟨zz5⟩⟩
 case rest =>
  clear HC3
  try clear c1
  try clear p2
  try clear c3
  try clear c5
  obtain ⟨kq, x18_2, rfl, HA, HJ2, HB⟩ := hcut
  cases kq with
  | zero => exact absurd HA.out (by simp [impl_SetLess.j0])
  | succ kj2 =>
   have H := HA.out
   clear HA
   simp only [impl_SetLess.j0] at H
   by_cases c10 : x18_2 = true
   ·subst c10
    have H1 : (some (([] : List (S40)), false)) = some (r1, r2) := by rw [if_pos rfl] at H; exact H
    clear H
    have H := H1
    clear H1
    simp only [Option.some.injEq, Prod.mk.injEq] at H
    obtain ⟨rfl, rfl⟩ := H
    go_wp2
    go_ret2
    exact ⟨_, zz8, zz11, zz5⟩
   ·replace c10 := Bool.eq_false_iff.mpr c10
    subst c10
    have H1 : ((impl_spans.f kj2 l0).bind fun t454 => ((impl_union.f kj2 t454).bind fun t457 => (impl_SetLess.l0 kj2 l1 ([] : List (S68)) t457 (t457.length : Int) 0))) = some (r1, r2) := by rw [if_neg (show ¬ (false = true) by decide)] at H; exact H
    clear H
    have H := H1
    clear H1
    replace H := bd H
    obtain ⟨t454, A11, H⟩ := H
    replace H : ((impl_union.f kj2 t454).bind fun t457 => (impl_SetLess.l0 kj2 l1 ([] : List (S68)) t457 (t457.length : Int) 0)) = some (r1, r2) := H
    replace H := bd H
    obtain ⟨t457, A12, H⟩ := H
    replace H : (impl_SetLess.l0 kj2 l1 ([] : List (S68)) t457 (t457.length : Int) 0) = some (r1, r2) := H
    have H' := Aside0.mk H
    clear H
    go_wp2_with (first | (refine gc (some 20) Try.func53 #[.slice A0 l0.length c0] ?_; (with_reducible refine (impl_spans.calls kj2 _ _ l0 t454 _ ?side1 ?side2 A11.out).mono ?_); (case side1 => exact zz22 HR0); (case side2 => exact HC0.out); rintro e w13 ⟨v455, rfl, ho0, hb⟩; refine ⟨_, rfl, ?_⟩; have HO456 := Aside0.mk (Kd.R_lower ho0 (below_size zz5)); replace HB := Aside0.mk (below_step zz5 hb); clear hb ho0; obtain ⟨Ao14, co14, eo14⟩ := Kd.R_slice HO456.out; subst eo14) | (refine gc (some 21) Try.func76 #[.slice Ao14 t454.length co14] ?_; (with_reducible refine (impl_union.calls kj2 _ _ t454 t457 _ ?side1 ?side2 A12.out).mono ?_); (case side1 => exact zz20 HO456); (case side2 => exact zz23 HO456); rintro e w15 ⟨v458, rfl, ho0, hb⟩; refine ⟨_, rfl, ?_⟩; have HO459 := Aside0.mk (Kd.R_lower (Kd.R_new' ho0 (Kd.R_lt (zz12 HO456))) (below_size zz5)); replace HO456 := Aside0.mk (Kd.R_elder' (zz12 HO456) (Kd.R_base ho0) hb); replace HB := Aside0.mk (below_step zz5 hb); clear hb ho0; obtain ⟨Ao16, co16, eo16⟩ := Kd.R_slice HO459.out; subst eo16))
    go_loopg [6, 23] kj2 (fun kq v6 v23 w' => ∃ (x6_2 : List (S68)) (x23_2 : Int), v23 = .int .i64 x23_2 ∧ Aside0 (impl_SetLess.l0 kq l1 x6_2 t457 (t457.length : Int) x23_2 = some (r1, r2)) ∧ Aside0 (kq ≤ kj2) ∧ Aside0 (Kd.R k68 68 w' w.heap.size (fun k_ => some k_ ≠ ((.slice Ao16 t457.length co16) : Value).ownBlock) v6 x6_2) ∧ Aside0 (Kd.R k68 68 w' w.heap.size (fun k_ => some k_ ≠ (v6 : Value).ownBlock) (.slice Ao16 t457.length co16) t457) ∧ Aside0 (Below w.heap.size w w'))
    case atStart => exact ⟨(([] : List (S68))), (0), zz1, H', ⟨Nat.le_refl _⟩, ⟨zz11⟩, ⟨zz17 HO459⟩, ⟨zz5⟩⟩
    case round =>
     clear H'
     try clear c1
     try clear p2
     try clear c3
     try clear c5
     try clear c7
     try clear c10
     try clear c13
     try clear p2
     obtain ⟨x6_2, x23_2, rfl, HA, HK2, HO_6, HO_21, HB⟩ := hrel
     cases gk with
     | zero => exact absurd HA.out (by simp [impl_SetLess.l0])
     | succ k2 =>
      have H := HA.out
      clear HA
      simp only [impl_SetLess.l0] at H
      replace H := ic H
      rcases H with ⟨c17b0, H⟩ | ⟨c17b0, H⟩
      ·replace H := gd H
       obtain ⟨c18b0, H⟩ := H
       replace H := gd H
       obtain ⟨c19b0, H⟩ := H
       replace H := bd H
       obtain ⟨t469, A20, H⟩ := H
       replace H : ((impl_union.f k2 t469).bind fun t472 => (impl_SetLess.l1 k2 l1 x6_2 t457 (t457.length : Int) x23_2 t472 (t472.length : Int) 0 ((rd_T68 t457 x23_2).f0) ((rd_T68 t457 x23_2).f1))) = some (r1, r2) := H
       replace H := bd H
       obtain ⟨t472, A21, H⟩ := H
       replace H : (impl_SetLess.l1 k2 l1 x6_2 t457 (t457.length : Int) x23_2 t472 (t472.length : Int) 0 ((rd_T68 t457 x23_2).f0) ((rd_T68 t457 x23_2).f1)) = some (r1, r2) := H
       have H' := Aside0.mk H
       clear H
       obtain ⟨⟨ad467, e467, hx467_0, hx467_1⟩, p467, q467⟩ := wi (at_T68 (Kd.R_reads' HO_21.out).2.2 x23_2)
       cases e467
       go_wp2_with (first | (refine be 8 #[.int .i64 0, .int .i64 0] 68 ?_; intro gb468 hg w22 hbox hb; replace HO_6 := Aside0.mk (Kd.R_below (Kd.R_elderB (zz12 HO_6) gb468 (Nat.le_of_eq hg.symm)) hb); replace HO_21 := Aside0.mk (Kd.R_below (Kd.R_elderB (zz12 HO_21) gb468 (Nat.le_of_eq hg.symm)) hb); have BK468 := Aside0.mk hbox; have GW468 := Aside0.mk (zz4 : w.heap.size ≤ gb468); have GE468 := Aside0.mk (zz4 : w.heap.size ≤ gb468); replace HB := Aside0.mk (below_step zz5 hb); clear hb hbox hg; have hcz23_0 : w22.cell? ⟨gb468, 0, none⟩ = some (.int .i64 0) := (blk_cell BK468.out 0).trans rfl; have hcz23_1 : w22.cell? ⟨gb468, 1, none⟩ = some (.int .i64 0) := (blk_cell BK468.out 1).trans rfl; have hfz23_0 := blk_frozen BK468.out 0; have hfz23_1 := blk_frozen BK468.out 1) | (refine gc (some 28) Try.func53 #[.slice A1 l1.length c1] ?_; (with_reducible refine (impl_spans.calls k2 _ _ l1 t469 _ ?side1 ?side2 A20.out).mono ?_); (case side1 => exact zz63 HR1 GE468); (case side2 => exact HC1.out); rintro e w24 ⟨v470, rfl, ho0, hb⟩; refine ⟨_, rfl, ?_⟩; have HO471 := Aside0.mk (Kd.R_lower (Kd.R_newB (Kd.R_new' (Kd.R_new' ho0 (Kd.R_lt (by (with_reducible repeat (first | apply Kd.R_alloc | apply Kd.R_drewN | apply Kd.R_drew)); exact (Kd.R_mono (Kd.R_far (p := ⟨gb468, 1, none⟩) (Kd.R_far (p := ⟨gb468, 0, none⟩) (Kd.R_mono HO_6.out (fun k_ hk => (⟨hk, hk.2⟩ : _ ∧ k_ ≠ gb468))) (fun _ hk => hk.2) (.int .i64 ((rd_T68 t457 x23_2).f0))) (fun _ hk => hk.2) (.int .i64 ((rd_T68 t457 x23_2).f1))) (fun _ h_ => h_.1))))) (Kd.R_lt (by (with_reducible repeat (first | apply Kd.R_alloc | apply Kd.R_drewN | apply Kd.R_drew)); exact (Kd.R_mono (Kd.R_far (p := ⟨gb468, 1, none⟩) (Kd.R_far (p := ⟨gb468, 0, none⟩) (Kd.R_mono HO_21.out (fun k_ hk => (⟨hk, hk.2⟩ : _ ∧ k_ ≠ gb468))) (fun _ hk => hk.2) (.int .i64 ((rd_T68 t457 x23_2).f0))) (fun _ hk => hk.2) (.int .i64 ((rd_T68 t457 x23_2).f1))) (fun _ h_ => h_.1))))) (g := gb468) (o := .cells #[.int .i64 ((rd_T68 t457 x23_2).f0), .int .i64 ((rd_T68 t457 x23_2).f1)] 68 (0, 0)) (by (with_reducible repeat (first | refine blk_drewN ?_ _ | refine blk_drew ?_ | refine blk_alloc ?_ _)); refine blk_put (cs := #[.int .i64 ((rd_T68 t457 x23_2).f0), .int .i64 0]) ?_ 1 _ rfl; (with_reducible repeat (first | refine blk_drewN ?_ _ | refine blk_drew ?_ | refine blk_alloc ?_ _)); refine blk_put (cs := #[.int .i64 0, .int .i64 0]) ?_ 0 _ rfl; (with_reducible repeat (first | refine blk_drewN ?_ _ | refine blk_drew ?_ | refine blk_alloc ?_ _)); exact BK468.out)) (below_size (zz6 GE468))); replace HO_6 := Aside0.mk (Kd.R_elder' (by (with_reducible repeat (first | apply Kd.R_alloc | apply Kd.R_drewN | apply Kd.R_drew)); exact (Kd.R_mono (Kd.R_far (p := ⟨gb468, 1, none⟩) (Kd.R_far (p := ⟨gb468, 0, none⟩) (Kd.R_mono HO_6.out (fun k_ hk => (⟨hk, hk.2⟩ : _ ∧ k_ ≠ gb468))) (fun _ hk => hk.2) (.int .i64 ((rd_T68 t457 x23_2).f0))) (fun _ hk => hk.2) (.int .i64 ((rd_T68 t457 x23_2).f1))) (fun _ h_ => h_.1))) (Kd.R_base ho0) hb); replace HO_21 := Aside0.mk (Kd.R_elder' (by (with_reducible repeat (first | apply Kd.R_alloc | apply Kd.R_drewN | apply Kd.R_drew)); exact (Kd.R_mono (Kd.R_far (p := ⟨gb468, 1, none⟩) (Kd.R_far (p := ⟨gb468, 0, none⟩) (Kd.R_mono HO_21.out (fun k_ hk => (⟨hk, hk.2⟩ : _ ∧ k_ ≠ gb468))) (fun _ hk => hk.2) (.int .i64 ((rd_T68 t457 x23_2).f0))) (fun _ hk => hk.2) (.int .i64 ((rd_T68 t457 x23_2).f1))) (fun _ h_ => h_.1))) (Kd.R_base ho0) hb); replace BK468 := Aside0.mk (blk_below (g := gb468) (o := .cells #[.int .i64 ((rd_T68 t457 x23_2).f0), .int .i64 ((rd_T68 t457 x23_2).f1)] 68 (0, 0)) (by (with_reducible repeat (first | refine blk_drewN ?_ _ | refine blk_drew ?_ | refine blk_alloc ?_ _)); refine blk_put (cs := #[.int .i64 ((rd_T68 t457 x23_2).f0), .int .i64 0]) ?_ 1 _ rfl; (with_reducible repeat (first | refine blk_drewN ?_ _ | refine blk_drew ?_ | refine blk_alloc ?_ _)); refine blk_put (cs := #[.int .i64 0, .int .i64 0]) ?_ 0 _ rfl; (with_reducible repeat (first | refine blk_drewN ?_ _ | refine blk_drew ?_ | refine blk_alloc ?_ _)); exact BK468.out) hb); replace HB := Aside0.mk (below_step (zz6 GE468) hb); clear hb ho0; obtain ⟨Ao25, co25, eo25⟩ := Kd.R_slice HO471.out; subst eo25) | (refine gc (some 29) Try.func76 #[.slice Ao25 t469.length co25] ?_; (with_reducible refine (impl_union.calls k2 _ _ t469 t472 _ ?side1 ?side2 A21.out).mono ?_); (case side1 => exact zz20 HO471); (case side2 => exact zz23 HO471); rintro e w26 ⟨v473, rfl, ho0, hb⟩; refine ⟨_, rfl, ?_⟩; have HO474 := Aside0.mk (Kd.R_lower (Kd.R_newB (Kd.R_new' (Kd.R_new' (Kd.R_new' ho0 (Kd.R_lt (zz12 HO_6))) (Kd.R_lt (zz12 HO_21))) (Kd.R_lt (zz12 HO471))) (g := gb468) (o := .cells #[.int .i64 ((rd_T68 t457 x23_2).f0), .int .i64 ((rd_T68 t457 x23_2).f1)] 68 (0, 0)) (zz7 BK468)) (below_size (zz6 GE468))); replace HO_6 := Aside0.mk (Kd.R_elder' (zz12 HO_6) (Kd.R_base ho0) hb); replace HO_21 := Aside0.mk (Kd.R_elder' (zz12 HO_21) (Kd.R_base ho0) hb); replace HO471 := Aside0.mk (Kd.R_elder' (zz12 HO471) (Kd.R_base ho0) hb); replace BK468 := Aside0.mk (blk_below (g := gb468) (o := .cells #[.int .i64 ((rd_T68 t457 x23_2).f0), .int .i64 ((rd_T68 t457 x23_2).f1)] 68 (0, 0)) (zz7 BK468) hb); replace HB := Aside0.mk (below_step (zz6 GE468) hb); clear hb ho0; obtain ⟨Ao27, co27, eo27⟩ := Kd.R_slice HO474.out; subst eo27))
       go_loopg [6, 31] k2 (fun kq v6 v31 w' => ∃ (x6_3 : List (S68)) (x31_3 : Int) (x469000_3 : Int), v31 = .int .i64 x31_3 ∧ Aside0 (impl_SetLess.l1 kq l1 x6_3 t457 (t457.length : Int) x23_2 t472 (t472.length : Int) x31_3 x469000_3 ((rd_T68 t457 x23_2).f1) = some (r1, r2)) ∧ Aside0 (kq ≤ k2) ∧ Aside0 (Kd.R k68 68 w' w.heap.size (fun k_ => some k_ ≠ ((.slice (some ad467) t457.length co16) : Value).ownBlock ∧ some k_ ≠ ((.slice Ao27 t472.length co27) : Value).ownBlock ∧ k_ ≠ gb468) v6 x6_3) ∧ Aside0 (Kd.R k68 68 w' w.heap.size (fun k_ => some k_ ≠ (v6 : Value).ownBlock ∧ some k_ ≠ ((.slice Ao27 t472.length co27) : Value).ownBlock ∧ k_ ≠ gb468) (.slice (some ad467) t457.length co16) t457) ∧ Aside0 (Kd.R k68 68 w' w.heap.size (fun k_ => some k_ ≠ (v6 : Value).ownBlock ∧ some k_ ≠ ((.slice (some ad467) t457.length co16) : Value).ownBlock ∧ k_ ≠ gb468) (.slice Ao27 t472.length co27) t472) ∧ Aside0 (w'.heap[gb468]? = some (.cells #[.int .i64 x469000_3, .int .i64 ((rd_T68 t457 x23_2).f1)] 68 (0, 0))) ∧ Aside0 (Below w.heap.size w w'))
       case atStart => exact ⟨(x6_2), (0), ((rd_T68 t457 x23_2).f0), zz1, H', ⟨Nat.le_refl _⟩, ⟨zz64 HO_6⟩, ⟨zz64 HO_21⟩, ⟨by (with_reducible repeat (first | apply Kd.R_alloc | apply Kd.R_drewN | apply Kd.R_drew)); exact Kd.R_mono HO474.out (fun _ hk => ⟨hk.1.1.1.2, ⟨hk.1.1.2, hk.2⟩⟩)⟩, ⟨zz7 BK468⟩, ⟨zz6 GE468⟩⟩
       case round =>
        clear H'
        try clear c1
        try clear p2
        try clear c3
        try clear p4
        try clear q4
        try clear hx4
        try clear c5
        try clear c7
        try clear c10
        try clear c13
        try clear c17
        try clear c17b0
        try clear c18
        try clear c18b0
        try clear c19
        try clear c19b0
        try clear hcz23_0
        try clear hcz23_1
        try clear hfz23_0
        try clear hfz23_1
        try clear hx467_0
        try clear hx467_1
        try clear p2
        try clear p467
        try clear q467
        obtain ⟨x6_3, x31_3, x469000_3, rfl, HA, HK3, HO_6, HO_21, HO_29, BK468, HB⟩ := hrel
        cases gk with
        | zero => exact absurd HA.out (by simp [impl_SetLess.l1])
        | succ k3 =>
         have H := HA.out
         clear HA
         simp only [impl_SetLess.l1] at H
         replace H := ic H
         rcases H with ⟨c28b0, H⟩ | ⟨c28b0, H⟩
         ·replace H := gd H
          obtain ⟨c29b0, H⟩ := H
          replace H := gd H
          obtain ⟨c30b0, H⟩ := H
          have HC31 := Aside0.mk H
          clear H
          obtain ⟨⟨ad478, e478, hx478_0, hx478_1⟩, p478, q478⟩ := wi (at_T68 (Kd.R_reads' HO_29.out).2.2 x31_3)
          cases e478
          go_upto_region 10 with (first | (refine be 10 #[.int .i64 0, .int .i64 0] 68 ?_; intro gb479 hg w32 hbox hb; replace HO_6 := Aside0.mk (Kd.R_below (Kd.R_elderB (zz12 HO_6) gb479 (Nat.le_of_eq hg.symm)) hb); replace HO_21 := Aside0.mk (Kd.R_below (Kd.R_elderB (zz12 HO_21) gb479 (Nat.le_of_eq hg.symm)) hb); replace HO_29 := Aside0.mk (Kd.R_below (Kd.R_elderB (zz12 HO_29) gb479 (Nat.le_of_eq hg.symm)) hb); have BK479 := Aside0.mk hbox; have GW479 := Aside0.mk (zz15 GE468 : w.heap.size ≤ gb479); have GE479 := Aside0.mk (zz15 GE468 : w.heap.size ≤ gb479); replace HB := Aside0.mk (below_step (zz6 GE468) hb); have NB468_479 := Aside0.mk (by rw [hg]; exact Nat.ne_of_lt (blk_lt (g := gb468) (o := .cells #[.int .i64 x469000_3, .int .i64 ((rd_T68 t457 x23_2).f1)] 68 (0, 0)) (zz7 BK468)) : gb468 ≠ gb479); have NB479_468 := Aside0.mk (by rw [hg]; exact Nat.ne_of_gt (blk_lt (g := gb468) (o := .cells #[.int .i64 x469000_3, .int .i64 ((rd_T68 t457 x23_2).f1)] 68 (0, 0)) (zz7 BK468)) : gb479 ≠ gb468); replace BK468 := Aside0.mk (blk_below (g := gb468) (o := .cells #[.int .i64 x469000_3, .int .i64 ((rd_T68 t457 x23_2).f1)] 68 (0, 0)) (zz7 BK468) hb); clear hb hbox hg; have hnb33 := NB479_468.out; have hnc33 := NB468_479.out; have hcz34_0 : w32.cell? ⟨gb479, 0, none⟩ = some (.int .i64 0) := (blk_cell BK479.out 0).trans rfl; have hcz34_1 : w32.cell? ⟨gb479, 1, none⟩ = some (.int .i64 0) := (blk_cell BK479.out 1).trans rfl; have hfz34_0 := blk_frozen BK479.out 0; have hfz34_1 := blk_frozen BK479.out 1))
          (try simp only [Act.put, List.setIfInBounds_toArray, List.set_cons_zero, List.set_cons_succ])
          go_cut [46] (fun v46 wc => ∃ (kq : Nat) (x46_30 : Bool), v46 = .bool x46_30 ∧ Aside0 (impl_SetLess.j3 kq l1 x6_3 t457 (t457.length : Int) x23_2 t472 (t472.length : Int) x31_3 x46_30 x469000_3 ((rd_T68 t457 x23_2).f1) ((rd_T68 t472 x31_3).f0) ((rd_T68 t472 x31_3).f1) = some (r1, r2)) ∧ Aside0 (kq ≤ k3) ∧ Aside0 (Kd.R k68 68 wc w.heap.size (fun k_ => some k_ ≠ ((.slice (some ad467) t457.length co16) : Value).ownBlock ∧ some k_ ≠ ((.slice (some ad478) t472.length co27) : Value).ownBlock ∧ k_ ≠ gb468 ∧ k_ ≠ gb479) u6 x6_3) ∧ Aside0 (Kd.R k68 68 wc w.heap.size (fun k_ => some k_ ≠ (u6 : Value).ownBlock ∧ some k_ ≠ ((.slice (some ad478) t472.length co27) : Value).ownBlock ∧ k_ ≠ gb468 ∧ k_ ≠ gb479) (.slice (some ad467) t457.length co16) t457) ∧ Aside0 (Kd.R k68 68 wc w.heap.size (fun k_ => some k_ ≠ (u6 : Value).ownBlock ∧ some k_ ≠ ((.slice (some ad467) t457.length co16) : Value).ownBlock ∧ k_ ≠ gb468 ∧ k_ ≠ gb479) (.slice (some ad478) t472.length co27) t472) ∧ Aside0 (wc.heap[gb468]? = some (.cells #[.int .i64 x469000_3, .int .i64 ((rd_T68 t457 x23_2).f1)] 68 (0, 0))) ∧ Aside0 (wc.heap[gb479]? = some (.cells #[.int .i64 ((rd_T68 t472 x31_3).f0), .int .i64 ((rd_T68 t472 x31_3).f1)] 68 (0, 0))) ∧ Aside0 (Below w.heap.size w wc))
          case first =>
           have H := HC31.out
           clear HC31
           replace H := ic H
           rcases H with ⟨c35b0, H⟩ | ⟨c35b0, H⟩
           ·(first | rw [c35b0] | (simp only [i64_w, i32_w]; rw [c35b0]) | skip)
            have H' := Aside0.mk H
            clear H
            have hnb36 := NB479_468.out
            have hnc36 := NB468_479.out
            have hcz37_0 : w32.cell? ⟨gb479, 0, none⟩ = some (.int .i64 0) := (blk_cell BK479.out 0).trans rfl
            have hcz37_1 : w32.cell? ⟨gb479, 1, none⟩ = some (.int .i64 0) := (blk_cell BK479.out 1).trans rfl
            have hfz37_0 := blk_frozen BK479.out 0
            have hfz37_1 := blk_frozen BK479.out 1
            have hcz38_0 : w32.cell? ⟨gb468, 0, none⟩ = some (.int .i64 x469000_3) := (blk_cell BK468.out 0).trans rfl
            have hcz38_1 : w32.cell? ⟨gb468, 1, none⟩ = some (.int .i64 ((rd_T68 t457 x23_2).f1)) := (blk_cell BK468.out 1).trans rfl
            have hfz38_0 := blk_frozen BK468.out 0
            have hfz38_1 := blk_frozen BK468.out 1
            go_wp2
            go_meet
            case rel => exact ⟨_, (true), zz1, H', ⟨by have := HJ2.out; have := HK2.out; have := HK3.out; first | omega | exact Nat.le_refl _⟩, ⟨by (with_reducible repeat (first | apply Kd.R_alloc | apply Kd.R_drewN | apply Kd.R_drew)); exact Kd.R_mono (Kd.R_far (p := ⟨gb479, 1, none⟩) (Kd.R_far (p := ⟨gb479, 0, none⟩) (Kd.R_mono HO_6.out (fun k_ hk => (⟨hk, hk.2⟩ : _ ∧ k_ ≠ gb479))) (fun _ hk => hk.2) (.int .i64 ((rd_T68 t472 x31_3).f0))) (fun _ hk => hk.2) (.int .i64 ((rd_T68 t472 x31_3).f1))) (fun _ hk => ⟨hk.1.1.1, ⟨hk.1.1.2.1, ⟨hk.1.1.2.2, hk.1.2⟩⟩⟩)⟩, ⟨by (with_reducible repeat (first | apply Kd.R_alloc | apply Kd.R_drewN | apply Kd.R_drew)); exact Kd.R_mono (Kd.R_far (p := ⟨gb479, 1, none⟩) (Kd.R_far (p := ⟨gb479, 0, none⟩) (Kd.R_mono HO_21.out (fun k_ hk => (⟨hk, hk.2⟩ : _ ∧ k_ ≠ gb479))) (fun _ hk => hk.2) (.int .i64 ((rd_T68 t472 x31_3).f0))) (fun _ hk => hk.2) (.int .i64 ((rd_T68 t472 x31_3).f1))) (fun _ hk => ⟨hk.1.1.1, ⟨hk.1.1.2.1, ⟨hk.1.1.2.2, hk.1.2⟩⟩⟩)⟩, ⟨by (with_reducible repeat (first | apply Kd.R_alloc | apply Kd.R_drewN | apply Kd.R_drew)); exact Kd.R_mono (Kd.R_far (p := ⟨gb479, 1, none⟩) (Kd.R_far (p := ⟨gb479, 0, none⟩) (Kd.R_mono HO_29.out (fun k_ hk => (⟨hk, hk.2⟩ : _ ∧ k_ ≠ gb479))) (fun _ hk => hk.2) (.int .i64 ((rd_T68 t472 x31_3).f0))) (fun _ hk => hk.2) (.int .i64 ((rd_T68 t472 x31_3).f1))) (fun _ hk => ⟨hk.1.1.1, ⟨hk.1.1.2.1, ⟨hk.1.1.2.2, hk.1.2⟩⟩⟩)⟩, ⟨zz39 NB468_479 BK468⟩, ⟨by (with_reducible repeat (first | refine blk_drewN ?_ _ | refine blk_drew ?_ | refine blk_alloc ?_ _)); refine blk_put (cs := #[.int .i64 ((rd_T68 t472 x31_3).f0), .int .i64 0]) ?_ 1 _ rfl; (with_reducible repeat (first | refine blk_drewN ?_ _ | refine blk_drew ?_ | refine blk_alloc ?_ _)); refine blk_put (cs := #[.int .i64 0, .int .i64 0]) ?_ 0 _ rfl; (with_reducible repeat (first | refine blk_drewN ?_ _ | refine blk_drew ?_ | refine blk_alloc ?_ _)); exact BK479.out⟩, ⟨zz16 GE468 GE479⟩⟩
           ·(first | rw [c35b0] | (simp only [i64_w, i32_w]; rw [c35b0]) | skip)
            have H' := Aside0.mk H
            clear H
            have hnb39 := NB479_468.out
            have hnc39 := NB468_479.out
            have hcz40_0 : w32.cell? ⟨gb479, 0, none⟩ = some (.int .i64 0) := (blk_cell BK479.out 0).trans rfl
            have hcz40_1 : w32.cell? ⟨gb479, 1, none⟩ = some (.int .i64 0) := (blk_cell BK479.out 1).trans rfl
            have hfz40_0 := blk_frozen BK479.out 0
            have hfz40_1 := blk_frozen BK479.out 1
            have hcz41_0 : w32.cell? ⟨gb468, 0, none⟩ = some (.int .i64 x469000_3) := (blk_cell BK468.out 0).trans rfl
            have hcz41_1 : w32.cell? ⟨gb468, 1, none⟩ = some (.int .i64 ((rd_T68 t457 x23_2).f1)) := (blk_cell BK468.out 1).trans rfl
            have hfz41_0 := blk_frozen BK468.out 0
            have hfz41_1 := blk_frozen BK468.out 1
            go_wp2
            go_meet
            case rel => exact ⟨_, (decide (((rd_T68 t472 x31_3).f0) > ((rd_T68 t457 x23_2).f1))), zz1, H', ⟨by have := HJ2.out; have := HK2.out; have := HK3.out; first | omega | exact Nat.le_refl _⟩, ⟨by (with_reducible repeat (first | apply Kd.R_alloc | apply Kd.R_drewN | apply Kd.R_drew)); exact Kd.R_mono (Kd.R_far (p := ⟨gb479, 1, none⟩) (Kd.R_far (p := ⟨gb479, 0, none⟩) (Kd.R_mono HO_6.out (fun k_ hk => (⟨hk, hk.2⟩ : _ ∧ k_ ≠ gb479))) (fun _ hk => hk.2) (.int .i64 ((rd_T68 t472 x31_3).f0))) (fun _ hk => hk.2) (.int .i64 ((rd_T68 t472 x31_3).f1))) (fun _ hk => ⟨hk.1.1.1, ⟨hk.1.1.2.1, ⟨hk.1.1.2.2, hk.1.2⟩⟩⟩)⟩, ⟨by (with_reducible repeat (first | apply Kd.R_alloc | apply Kd.R_drewN | apply Kd.R_drew)); exact Kd.R_mono (Kd.R_far (p := ⟨gb479, 1, none⟩) (Kd.R_far (p := ⟨gb479, 0, none⟩) (Kd.R_mono HO_21.out (fun k_ hk => (⟨hk, hk.2⟩ : _ ∧ k_ ≠ gb479))) (fun _ hk => hk.2) (.int .i64 ((rd_T68 t472 x31_3).f0))) (fun _ hk => hk.2) (.int .i64 ((rd_T68 t472 x31_3).f1))) (fun _ hk => ⟨hk.1.1.1, ⟨hk.1.1.2.1, ⟨hk.1.1.2.2, hk.1.2⟩⟩⟩)⟩, ⟨by (with_reducible repeat (first | apply Kd.R_alloc | apply Kd.R_drewN | apply Kd.R_drew)); exact Kd.R_mono (Kd.R_far (p := ⟨gb479, 1, none⟩) (Kd.R_far (p := ⟨gb479, 0, none⟩) (Kd.R_mono HO_29.out (fun k_ hk => (⟨hk, hk.2⟩ : _ ∧ k_ ≠ gb479))) (fun _ hk => hk.2) (.int .i64 ((rd_T68 t472 x31_3).f0))) (fun _ hk => hk.2) (.int .i64 ((rd_T68 t472 x31_3).f1))) (fun _ hk => ⟨hk.1.1.1, ⟨hk.1.1.2.1, ⟨hk.1.1.2.2, hk.1.2⟩⟩⟩)⟩, ⟨zz39 NB468_479 BK468⟩, ⟨by (with_reducible repeat (first | refine blk_drewN ?_ _ | refine blk_drew ?_ | refine blk_alloc ?_ _)); refine blk_put (cs := #[.int .i64 ((rd_T68 t472 x31_3).f0), .int .i64 0]) ?_ 1 _ rfl; (with_reducible repeat (first | refine blk_drewN ?_ _ | refine blk_drew ?_ | refine blk_alloc ?_ _)); refine blk_put (cs := #[.int .i64 0, .int .i64 0]) ?_ 0 _ rfl; (with_reducible repeat (first | refine blk_drewN ?_ _ | refine blk_drew ?_ | refine blk_alloc ?_ _)); exact BK479.out⟩, ⟨zz16 GE468 GE479⟩⟩
          case rest =>
           clear HC31
           try clear c1
           try clear c2
           try clear p2
           try clear c3
           try clear p4
           try clear q4
           try clear hx4
           try clear c5
           try clear c7
           try clear c10
           try clear c13
           try clear c17
           try clear c17b0
           try clear c18
           try clear c18b0
           try clear c19
           try clear c19b0
           try clear c28
           try clear c28b0
           try clear c29
           try clear c29b0
           try clear c30
           try clear c30b0
           try clear c31
           try clear c33
           try clear c35
           try clear c35b0
           try clear c36
           try clear c39
           try clear hcz23_0
           try clear hcz23_1
           try clear hcz34_0
           try clear hcz34_1
           try clear hcz37_0
           try clear hcz37_1
           try clear hcz38_0
           try clear hcz38_1
           try clear hcz40_0
           try clear hcz40_1
           try clear hcz41_0
           try clear hcz41_1
           try clear hfz23_0
           try clear hfz23_1
           try clear hfz34_0
           try clear hfz34_1
           try clear hfz37_0
           try clear hfz37_1
           try clear hfz38_0
           try clear hfz38_1
           try clear hfz40_0
           try clear hfz40_1
           try clear hfz41_0
           try clear hfz41_1
           try clear hx467_0
           try clear hx467_1
           try clear hx478_0
           try clear hx478_1
           try clear p2
           try clear p4
           try clear p467
           try clear p478
           try clear q4
           try clear q467
           try clear q478
           obtain ⟨kq, x46_30, rfl, HA, HJ30, HO_6, HO_21, HO_29, BK468, BK479, HB⟩ := hcut
           cases kq with
           | zero => exact absurd HA.out (by simp [impl_SetLess.j3])
           | succ kj30 =>
            have H := HA.out
            clear HA
            simp only [impl_SetLess.j3] at H
            by_cases c42 : x46_30 = true
            ·subst c42
             have H1 : (impl_SetLess.l1 kj30 l1 x6_3 t457 (t457.length : Int) x23_2 t472 (t472.length : Int) (wrap64 (x31_3 + 1)) x469000_3 ((rd_T68 t457 x23_2).f1)) = some (r1, r2) := by rw [if_pos rfl] at H; exact H
             clear H
             have H := H1
             clear H1
             have H' := Aside0.mk H
             clear H
             go_wp2
             go_roundg kj30
             case measure => have := HJ2.out; have := HK2.out; have := HK3.out; have := HJ30.out; omega
             case rel => exact ⟨(x6_3), (wrap64 (x31_3 + 1)), (x469000_3), zz1, H', ⟨by have := HJ2.out; have := HK2.out; have := HK3.out; have := HJ30.out; omega⟩, ⟨zz65 HO_6⟩, ⟨zz65 HO_21⟩, ⟨zz65 HO_29⟩, ⟨zz7 BK468⟩, ⟨zz16 GE468 GE479⟩⟩
            ·replace c42 := Bool.eq_false_iff.mpr c42
             subst c42
             have H1 : (if x469000_3 < ((rd_T68 t472 x31_3).f0) then (if x6_3.length < 8796093022208 then (impl_SetLess.l1 kj30 l1 (x6_3 ++ [(⟨x469000_3, wrap64 (((rd_T68 t472 x31_3).f0) - 1)⟩ : S68)]) t457 (t457.length : Int) x23_2 t472 (t472.length : Int) (wrap64 (x31_3 + 1)) (wrap64 (((rd_T68 t472 x31_3).f1) + 1)) ((rd_T68 t457 x23_2).f1)) else (none)) else (impl_SetLess.l1 kj30 l1 x6_3 t457 (t457.length : Int) x23_2 t472 (t472.length : Int) (wrap64 (x31_3 + 1)) (wrap64 (((rd_T68 t472 x31_3).f1) + 1)) ((rd_T68 t457 x23_2).f1))) = some (r1, r2) := by rw [if_neg (show ¬ (false = true) by decide)] at H; exact H
             clear H
             have H := H1
             clear H1
             replace H := ic H
             rcases H with ⟨c43b0, H⟩ | ⟨c43b0, H⟩
             ·replace H := gp H
              obtain ⟨c44, H⟩ := H
              have LMc44 := Aside0.mk c44
              clear c44
              obtain ⟨y480, hy480⟩ : ∃ y_ : List (S68), y_ = (x6_3 ++ [(⟨x469000_3, wrap64 (((rd_T68 t472 x31_3).f0) - 1)⟩ : S68)]) := ⟨_, rfl⟩
              replace H : (impl_SetLess.l1 kj30 l1 y480 t457 (t457.length : Int) x23_2 t472 (t472.length : Int) (wrap64 (x31_3 + 1)) (wrap64 (((rd_T68 t472 x31_3).f1) + 1)) ((rd_T68 t457 x23_2).f1)) = some (r1, r2) := by first | (rw [hy480]; with_reducible exact H) | (have H2_ := (Option.bind_some _ _).symm.trans H; rw [hy480]; with_reducible exact H2_) | (have H2_ := (Option.bind_some _ _).symm.trans H; with_reducible exact H2_) | with_reducible exact H | (rw [hy480]; exact H) | exact H
              have Ny480 := Aside0.mk hy480
              clear hy480
              have H' := Aside0.mk H
              clear H
              have hnb45 := NB468_479.out
              have hnc45 := NB479_468.out
              have hcz46_0 : wc.cell? ⟨gb468, 0, none⟩ = some (.int .i64 x469000_3) := (blk_cell BK468.out 0).trans rfl
              have hcz46_1 : wc.cell? ⟨gb468, 1, none⟩ = some (.int .i64 ((rd_T68 t457 x23_2).f1)) := (blk_cell BK468.out 1).trans rfl
              have hfz46_0 := blk_frozen BK468.out 0
              have hfz46_1 := blk_frozen BK468.out 1
              have hcz47_0 : wc.cell? ⟨gb479, 0, none⟩ = some (.int .i64 ((rd_T68 t472 x31_3).f0)) := (blk_cell BK479.out 0).trans rfl
              have hcz47_1 : wc.cell? ⟨gb479, 1, none⟩ = some (.int .i64 ((rd_T68 t472 x31_3).f1)) := (blk_cell BK479.out 1).trans rfl
              have hfz47_0 := blk_frozen BK479.out 0
              have hfz47_1 := blk_frozen BK479.out 1
              go_wp2_with (first | ((with_reducible refine gate_builtin (b := .append) (xs := #[.tmp 52, .tmp 59]) rfl ?_); at_builtin; refine Kd.R_append k68 (w0 := w) w.heap.size rfl (.tmp 52) (.tmp 59) 75 68 (.agg #[(.int .i64 0), (.int .i64 0)]) 16 rfl Try.underlying75 info68 rfl (by decide) (by omega) u6 x6_3 (⟨x469000_3, wrap64 (((rd_T68 t472 x31_3).f0) - 1)⟩ : S68) [.int .i64 x469000_3, .int .i64 (wrap64 (((rd_T68 t472 x31_3).f0) - 1))] (fun k_ => some k_ ≠ (.slice (some ad467) t457.length co16 : Value).ownBlock ∧ some k_ ≠ (.slice (some ad478) t472.length co27 : Value).ownBlock ∧ k_ ≠ gb468 ∧ k_ ≠ gb479) (fun _ => False) rfl rfl ?aP (fun _ hk => hk.elim) ?aF ?aO ?aB ?aS ?aL ?_; (case aP => exact k68_mkM _ _ _ (⟨x469000_3, wrap64 (((rd_T68 t472 x31_3).f0) - 1)⟩ : S68)); (case aB => exact zz16 GE468 GE479); (case aF => exact (fun k_ hk => ⟨Kd.fresh' (Kd.R_lt (zz12 HO_21)) k_ hk, Kd.fresh' (Kd.R_lt (zz12 HO_29)) k_ hk, Kd.freshB (g := gb468) (o := .cells #[.int .i64 x469000_3, .int .i64 ((rd_T68 t457 x23_2).f1)] 68 (0, 0)) (zz7 BK468) k_ hk, Kd.freshB (g := gb479) (o := .cells #[.int .i64 ((rd_T68 t472 x31_3).f0), .int .i64 ((rd_T68 t472 x31_3).f1)] 68 (0, 0)) (zz7 BK479) k_ hk⟩)); (case aO => exact zz12 HO_6); (case aS => exact (below_size (zz16 GE468 GE479))); (case aL => exact zz3 LMc44); intro v481 w48 ho hb hg hat; rw [← Ny480.out] at ho; replace HO_21 := Aside0.mk (Kd.R_after (ok := (fun k_ => some k_ ≠ (.slice (some ad478) t472.length co27 : Value).ownBlock ∧ k_ ≠ gb468 ∧ k_ ≠ gb479)) (zz66 HO_21) hg hat); replace HO_29 := Aside0.mk (Kd.R_after (ok := (fun k_ => some k_ ≠ (.slice (some ad467) t457.length co16 : Value).ownBlock ∧ k_ ≠ gb468 ∧ k_ ≠ gb479)) (zz66 HO_29) hg hat); replace BK468 := Aside0.mk (blk_grown (g := gb468) (o := .cells #[.int .i64 x469000_3, .int .i64 ((rd_T68 t457 x23_2).f1)] 68 (0, 0)) (zz7 BK468) hg (Kd.R_away HO_6.out (fun _ hk => hk.2.2.1))); replace BK479 := Aside0.mk (blk_grown (g := gb479) (o := .cells #[.int .i64 ((rd_T68 t472 x31_3).f0), .int .i64 ((rd_T68 t472 x31_3).f1)] 68 (0, 0)) (zz7 BK479) hg (Kd.R_away HO_6.out (fun _ hk => hk.2.2.2))); replace HB := Aside0.mk hb; have HO482 := Aside0.mk ho; clear HO_6 ho hb hg hat; have hcz49_0 : w48.cell? ⟨gb479, 0, none⟩ = some (.int .i64 ((rd_T68 t472 x31_3).f0)) := (blk_cell BK479.out 0).trans rfl; have hcz49_1 : w48.cell? ⟨gb479, 1, none⟩ = some (.int .i64 ((rd_T68 t472 x31_3).f1)) := (blk_cell BK479.out 1).trans rfl; have hfz49_0 := blk_frozen BK479.out 0; have hfz49_1 := blk_frozen BK479.out 1; have hcz50_0 : w48.cell? ⟨gb468, 0, none⟩ = some (.int .i64 x469000_3) := (blk_cell BK468.out 0).trans rfl; have hcz50_1 : w48.cell? ⟨gb468, 1, none⟩ = some (.int .i64 ((rd_T68 t457 x23_2).f1)) := (blk_cell BK468.out 1).trans rfl; have hfz50_0 := blk_frozen BK468.out 0; have hfz50_1 := blk_frozen BK468.out 1))
              go_roundg kj30
              case measure => have := HJ2.out; have := HK2.out; have := HK3.out; have := HJ30.out; omega
              case rel => exact ⟨(y480), (wrap64 (x31_3 + 1)), (wrap64 (((rd_T68 t472 x31_3).f1) + 1)), zz1, H', ⟨by have := HJ2.out; have := HK2.out; have := HK3.out; have := HJ30.out; omega⟩, ⟨by (with_reducible repeat (first | apply Kd.R_alloc | apply Kd.R_drewN | apply Kd.R_drew)); exact Kd.R_mono (Kd.R_far (p := ⟨gb468, 0, none⟩) (Kd.R_mono HO482.out (fun k_ hk => (⟨hk, hk.2.2.1⟩ : _ ∧ k_ ≠ gb468))) (fun _ hk => hk.2) (.int .i64 (wrap64 (((rd_T68 t472 x31_3).f1) + 1)))) (fun _ hk => ⟨hk.1.1, ⟨hk.1.2.1, hk.1.2.2.1⟩⟩)⟩, ⟨by (with_reducible repeat (first | apply Kd.R_alloc | apply Kd.R_drewN | apply Kd.R_drew)); exact Kd.R_mono (Kd.R_far (p := ⟨gb468, 0, none⟩) (Kd.R_mono HO_21.out (fun k_ hk => (⟨hk, hk.1.2.1⟩ : _ ∧ k_ ≠ gb468))) (fun _ hk => hk.2) (.int .i64 (wrap64 (((rd_T68 t472 x31_3).f1) + 1)))) (fun _ hk => ⟨hk.1.2, ⟨hk.1.1.1, hk.1.1.2.1⟩⟩)⟩, ⟨by (with_reducible repeat (first | apply Kd.R_alloc | apply Kd.R_drewN | apply Kd.R_drew)); exact Kd.R_mono (Kd.R_far (p := ⟨gb468, 0, none⟩) (Kd.R_mono HO_29.out (fun k_ hk => (⟨hk, hk.1.2.1⟩ : _ ∧ k_ ≠ gb468))) (fun _ hk => hk.2) (.int .i64 (wrap64 (((rd_T68 t472 x31_3).f1) + 1)))) (fun _ hk => ⟨hk.1.2, ⟨hk.1.1.1, hk.1.1.2.1⟩⟩)⟩, ⟨by (with_reducible repeat (first | refine blk_drewN ?_ _ | refine blk_drew ?_ | refine blk_alloc ?_ _)); refine blk_put (cs := #[.int .i64 x469000_3, .int .i64 ((rd_T68 t457 x23_2).f1)]) ?_ 0 _ rfl; (with_reducible repeat (first | refine blk_drewN ?_ _ | refine blk_drew ?_ | refine blk_alloc ?_ _)); exact BK468.out⟩, ⟨zz16 GE468 GE479⟩⟩
             ·have H' := Aside0.mk H
              clear H
              have hnb51 := NB468_479.out
              have hnc51 := NB479_468.out
              have hcz52_0 : wc.cell? ⟨gb468, 0, none⟩ = some (.int .i64 x469000_3) := (blk_cell BK468.out 0).trans rfl
              have hcz52_1 : wc.cell? ⟨gb468, 1, none⟩ = some (.int .i64 ((rd_T68 t457 x23_2).f1)) := (blk_cell BK468.out 1).trans rfl
              have hfz52_0 := blk_frozen BK468.out 0
              have hfz52_1 := blk_frozen BK468.out 1
              have hcz53_0 : wc.cell? ⟨gb479, 0, none⟩ = some (.int .i64 ((rd_T68 t472 x31_3).f0)) := (blk_cell BK479.out 0).trans rfl
              have hcz53_1 : wc.cell? ⟨gb479, 1, none⟩ = some (.int .i64 ((rd_T68 t472 x31_3).f1)) := (blk_cell BK479.out 1).trans rfl
              have hfz53_0 := blk_frozen BK479.out 0
              have hfz53_1 := blk_frozen BK479.out 1
              go_wp2
              go_roundg kj30
              case measure => have := HJ2.out; have := HK2.out; have := HK3.out; have := HJ30.out; omega
              case rel => exact ⟨(x6_3), (wrap64 (x31_3 + 1)), (wrap64 (((rd_T68 t472 x31_3).f1) + 1)), zz1, H', ⟨by have := HJ2.out; have := HK2.out; have := HK3.out; have := HJ30.out; omega⟩, ⟨by (with_reducible repeat (first | apply Kd.R_alloc | apply Kd.R_drewN | apply Kd.R_drew)); exact Kd.R_mono (Kd.R_far (p := ⟨gb468, 0, none⟩) (Kd.R_mono HO_6.out (fun k_ hk => (⟨hk, hk.2.2.1⟩ : _ ∧ k_ ≠ gb468))) (fun _ hk => hk.2) (.int .i64 (wrap64 (((rd_T68 t472 x31_3).f1) + 1)))) (fun _ hk => ⟨hk.1.1, ⟨hk.1.2.1, hk.1.2.2.1⟩⟩)⟩, ⟨by (with_reducible repeat (first | apply Kd.R_alloc | apply Kd.R_drewN | apply Kd.R_drew)); exact Kd.R_mono (Kd.R_far (p := ⟨gb468, 0, none⟩) (Kd.R_mono HO_21.out (fun k_ hk => (⟨hk, hk.2.2.1⟩ : _ ∧ k_ ≠ gb468))) (fun _ hk => hk.2) (.int .i64 (wrap64 (((rd_T68 t472 x31_3).f1) + 1)))) (fun _ hk => ⟨hk.1.1, ⟨hk.1.2.1, hk.1.2.2.1⟩⟩)⟩, ⟨by (with_reducible repeat (first | apply Kd.R_alloc | apply Kd.R_drewN | apply Kd.R_drew)); exact Kd.R_mono (Kd.R_far (p := ⟨gb468, 0, none⟩) (Kd.R_mono HO_29.out (fun k_ hk => (⟨hk, hk.2.2.1⟩ : _ ∧ k_ ≠ gb468))) (fun _ hk => hk.2) (.int .i64 (wrap64 (((rd_T68 t472 x31_3).f1) + 1)))) (fun _ hk => ⟨hk.1.1, ⟨hk.1.2.1, hk.1.2.2.1⟩⟩)⟩, ⟨by (with_reducible repeat (first | refine blk_drewN ?_ _ | refine blk_drew ?_ | refine blk_alloc ?_ _)); refine blk_put (cs := #[.int .i64 x469000_3, .int .i64 ((rd_T68 t457 x23_2).f1)]) ?_ 0 _ rfl; (with_reducible repeat (first | refine blk_drewN ?_ _ | refine blk_drew ?_ | refine blk_alloc ?_ _)); exact BK468.out⟩, ⟨zz16 GE468 GE479⟩⟩
         ·replace H := ic H
          rcases H with ⟨c54b0, H⟩ | ⟨c54b0, H⟩
          ·replace H := gp H
           obtain ⟨c55, H⟩ := H
           have LMc55 := Aside0.mk c55
           clear c55
           obtain ⟨y475, hy475⟩ : ∃ y_ : List (S68), y_ = (x6_3 ++ [(⟨x469000_3, ((rd_T68 t457 x23_2).f1)⟩ : S68)]) := ⟨_, rfl⟩
           replace H : (impl_SetLess.l0 k3 l1 y475 t457 (t457.length : Int) (wrap64 (x23_2 + 1))) = some (r1, r2) := by first | (rw [hy475]; with_reducible exact H) | (have H2_ := (Option.bind_some _ _).symm.trans H; rw [hy475]; with_reducible exact H2_) | (have H2_ := (Option.bind_some _ _).symm.trans H; with_reducible exact H2_) | with_reducible exact H | (rw [hy475]; exact H) | exact H
           have Ny475 := Aside0.mk hy475
           clear hy475
           have H' := Aside0.mk H
           clear H
           have hcz56_0 : wr.cell? ⟨gb468, 0, none⟩ = some (.int .i64 x469000_3) := (blk_cell BK468.out 0).trans rfl
           have hcz56_1 : wr.cell? ⟨gb468, 1, none⟩ = some (.int .i64 ((rd_T68 t457 x23_2).f1)) := (blk_cell BK468.out 1).trans rfl
           have hfz56_0 := blk_frozen BK468.out 0
           have hfz56_1 := blk_frozen BK468.out 1
           go_wp2_with (first | ((with_reducible refine gate_builtin (b := .append) (xs := #[.tmp 71, .tmp 73]) rfl ?_); at_builtin; refine Kd.R_append k68 (w0 := w) w.heap.size rfl (.tmp 71) (.tmp 73) 75 68 (.agg #[(.int .i64 0), (.int .i64 0)]) 16 rfl Try.underlying75 info68 rfl (by decide) (by omega) u6 x6_3 (⟨x469000_3, ((rd_T68 t457 x23_2).f1)⟩ : S68) [.int .i64 x469000_3, .int .i64 ((rd_T68 t457 x23_2).f1)] (fun k_ => some k_ ≠ (.slice (some ad467) t457.length co16 : Value).ownBlock ∧ some k_ ≠ (.slice Ao27 t472.length co27 : Value).ownBlock ∧ k_ ≠ gb468) (fun _ => False) rfl rfl ?aP (fun _ hk => hk.elim) ?aF ?aO ?aB ?aS ?aL ?_; (case aP => exact k68_mkM _ _ _ (⟨x469000_3, ((rd_T68 t457 x23_2).f1)⟩ : S68)); (case aB => exact zz6 GE468); (case aF => exact (fun k_ hk => ⟨Kd.fresh' (Kd.R_lt (zz12 HO_21)) k_ hk, Kd.fresh' (Kd.R_lt (zz12 HO_29)) k_ hk, Kd.freshB (g := gb468) (o := .cells #[.int .i64 x469000_3, .int .i64 ((rd_T68 t457 x23_2).f1)] 68 (0, 0)) (zz7 BK468) k_ hk⟩)); (case aO => exact zz12 HO_6); (case aS => exact zz14 GE468); (case aL => exact zz3 LMc55); intro v476 w57 ho hb hg hat; rw [← Ny475.out] at ho; replace HO_21 := Aside0.mk (Kd.R_after (ok := (fun k_ => some k_ ≠ (.slice Ao27 t472.length co27 : Value).ownBlock ∧ k_ ≠ gb468)) (zz58 HO_21) hg hat); replace HO_29 := Aside0.mk (Kd.R_after (ok := (fun k_ => some k_ ≠ (.slice (some ad467) t457.length co16 : Value).ownBlock ∧ k_ ≠ gb468)) (zz58 HO_29) hg hat); replace BK468 := Aside0.mk (blk_grown (g := gb468) (o := .cells #[.int .i64 x469000_3, .int .i64 ((rd_T68 t457 x23_2).f1)] 68 (0, 0)) (zz7 BK468) hg (Kd.R_away HO_6.out (fun _ hk => hk.2.2))); replace HB := Aside0.mk hb; have HO477 := Aside0.mk ho; clear HO_6 ho hb hg hat))
           go_roundg k3
           case measure => have := HJ2.out; have := HK2.out; have := HK3.out; omega
           case rel => exact ⟨(y475), (wrap64 (x23_2 + 1)), zz1, H', ⟨zz59 HJ2 HK2 HK3⟩, ⟨zz61 HO477⟩, ⟨zz21 HO_21⟩, ⟨zz6 GE468⟩⟩
          ·have H' := Aside0.mk H
           clear H
           have hcz58_0 : wr.cell? ⟨gb468, 0, none⟩ = some (.int .i64 x469000_3) := (blk_cell BK468.out 0).trans rfl
           have hcz58_1 : wr.cell? ⟨gb468, 1, none⟩ = some (.int .i64 ((rd_T68 t457 x23_2).f1)) := (blk_cell BK468.out 1).trans rfl
           have hfz58_0 := blk_frozen BK468.out 0
           have hfz58_1 := blk_frozen BK468.out 1
           go_wp2
           go_roundg k3
           case measure => have := HJ2.out; have := HK2.out; have := HK3.out; omega
           case rel => exact ⟨(x6_3), (wrap64 (x23_2 + 1)), zz1, H', ⟨zz59 HJ2 HK2 HK3⟩, ⟨zz61 HO_6⟩, ⟨zz61 HO_21⟩, ⟨zz6 GE468⟩⟩
      ·replace H := Option.bind_eq_some_iff.mp H
       obtain ⟨t460, A590, H⟩ := H
       replace H : ((impl_limited.f t460).bind fun bt463 => (some (bt463.1, bt463.2))) = some (r1, r2) := H
       have A59 := Aside0.mk A590
       clear A590
       replace H := bd H
       obtain ⟨⟨t463, t466⟩, A60, H⟩ := H
       replace H : (some (t463, t466)) = some (r1, r2) := H
       simp only [Option.some.injEq, Prod.mk.injEq] at H
       obtain ⟨rfl, rfl⟩ := H
       obtain ⟨Ao61, co61, eo61⟩ := Kd.R_slice HO_6.out
       subst eo61
       go_wp2_with (first | (refine gc (some 77) Try.func52 #[.slice Ao61 x6_2.length co61] ?_; (with_reducible refine (impl_set.calls k2 _ _ x6_2 t460 _ ?side1 ?side2 A59.out).mono ?_); (case side1 => exact zz20 HO_6); (case side2 => exact zz23 HO_6); rintro e w62 ⟨v461, rfl, ho0, hb⟩; refine ⟨_, rfl, ?_⟩; replace HO_6 := Aside0.mk (Kd.R_below (zz12 HO_6) hb); replace HO_21 := Aside0.mk (Kd.R_below (zz12 HO_21) hb); have HO462 := Aside0.mk (Kd.R_lower ho0 (below_size zz5)); replace HB := Aside0.mk (below_step zz5 hb); clear hb ho0; obtain ⟨Ao63, co63, eo63⟩ := Kd.R_slice HO462.out; subst eo63) | (refine gc (some 78) Try.func64 #[.slice Ao63 t460.length co63] ?_; (with_reducible refine (impl_limited.calls (fun k_ => some k_ = (.slice Ao63 t460.length co63 : Value).ownBlock) (.slice Ao63 t460.length co63) t460 t463 t466 w _ ?side1 ?side2 A60.out).mono ?_); (case side1 => exact zz5); (case side2 => exact Kd.R_tight rfl HO462.out); rintro e w64 ⟨v464, rfl, ho0, hb, hkp⟩; refine ⟨_, rfl, ?_⟩; replace HO_6 := Aside0.mk (Kd.R_mono (ok' := fun k_ => some k_ ≠ (.slice Ao16 t457.length co16 : Value).ownBlock) (Kd.R_keptB ((Kd.R_apart' HO_6.out (Kd.R_typed HO462.out) (by decide))) hkp (fun k_ hk_ hs_ => (hk_.2) hs_)) (fun k_ hk_ => hk_.1.1)); replace HO_21 := Aside0.mk (Kd.R_mono (ok' := fun k_ => some k_ ≠ (.slice Ao61 x6_2.length co61 : Value).ownBlock) (Kd.R_keptB ((Kd.R_apart' HO_21.out (Kd.R_typed HO462.out) (by decide))) hkp (fun k_ hk_ hs_ => (hk_.2) hs_)) (fun k_ hk_ => hk_.1.1)); have HO465 := Aside0.mk (Kd.R_mono (ok' := fun k_ => True) ho0 (fun k_ hk_ => trivial)); replace HB := Aside0.mk hb; clear HO462 hb hkp ho0))
       go_ret2
       exact ⟨_, zz8, zz12 HO465, zz5⟩
def spec_l2Same.l0 : Nat → List (S40) → List (S40) → Int → Option (Bool)
 | 0, _, _, _ => none
 | k + 1, x0, x1, x5 => if x5 < (x0.length : Int) then (if 0 ≤ x5 then (if x5 < (x1.length : Int) then (if (!(((rd_T40 x0 x5).f0) == ((rd_T40 x1 x5).f0)) || (!(((rd_T40 x0 x5).f1) == ((rd_T40 x1 x5).f1)))) = true then (some false) else (spec_l2Same.l0 k x0 x1 (wrap64 (x5 + 1)))) else (none)) else (none)) else (some true)
def spec_l2Same.f (k : Nat) (l0 : List (S40)) (l1 : List (S40)) : Option (Bool) := if (l0.length : Int) = (l1.length : Int) then (spec_l2Same.l0 k l0 l1 0) else (some false)
set_option maxHeartbeats 8000000 in
set_option maxRecDepth 100000 in
theorem spec_l2Same.calls (k : Nat) (A0 : Option Addr) (c0 : Nat) (l0 : List (S40)) (A1 : Option Addr) (c1 : Nat) (l1 : List (S40)) (r : Bool) (w : World) (hr0 : Kd.C k40 w A0 l0.length l0) (hc0 : l0.length ≤ c0) (hr1 : Kd.C k40 w A1 l1.length l1) (hc1 : l1.length ≤ c1) (h : spec_l2Same.f k l0 l1 = some r) :
  Calls Try.prog 74 #[.slice A0 l0.length c0, .slice A1 l1.length c1] w fun e w' => e = .returned (.bool r) ∧ Drawn0 w w' := by
 have hu40 := Try.underlying40
 have HR0 := Aside0.mk hr0
 have HC0 := Aside0.mk hc0
 clear hr0 hc0
 have HR1 := Aside0.mk hr1
 have HC1 := Aside0.mk hc1
 clear hr1 hc1
 have H : (if (l0.length : Int) = (l1.length : Int) then (spec_l2Same.l0 k l0 l1 0) else (some false)) = some r := h
 clear h
 by_cases c3 : (l0.length : Int) = (l1.length : Int)
 ·rw [if_pos c3] at H
  have c3b0 : ((l0.length : Int) == (l1.length : Int)) = true := beq_iff_eq.mpr c3
  have c3b1 : ((l0.length : Int) != (l1.length : Int)) = false := bne_eq_false_iff_eq.mpr c3
  have c3b2 : (l0.length == l1.length) = true := by first | simpa using c3 | (simp at c3 ⊢; omega)
  clear c3
  have H' := Aside0.mk H
  clear H
  go_enter Try.func74, Try.ntmps74
  go_wp2
  repeat (go_quiet (fail); try go_wp2)
  go_loopg [5] k (fun kq v5 w' => ∃ (x5_1 : Int), v5 = .int .i64 x5_1 ∧ Aside0 (spec_l2Same.l0 kq l0 l1 x5_1 = some r) ∧ Aside0 (kq ≤ k) ∧ Drawn0 w w')
  case atStart => exact ⟨(0), zz1, H', ⟨Nat.le_refl _⟩, zz2⟩
  case round =>
   clear H'
   try clear c1
   try clear p2
   try clear c3
   try clear c3b0
   try clear c3b1
   try clear c3b2
   obtain ⟨x5_1, rfl, HA, HK1, ⟨m1, rfl⟩⟩ := hrel
   cases gk with
   | zero => exact absurd HA.out (by simp [spec_l2Same.l0])
   | succ k1 =>
    have H := HA.out
    clear HA
    simp only [spec_l2Same.l0] at H
    replace H := ic H
    rcases H with ⟨c4b0, H⟩ | ⟨c4b0, H⟩
    ·replace H := gd H
     obtain ⟨c5b0, H⟩ := H
     replace H := gd H
     obtain ⟨c6b0, H⟩ := H
     by_cases c7 : (!(((rd_T40 l0 x5_1).f0) == ((rd_T40 l1 x5_1).f0)) || (!(((rd_T40 l0 x5_1).f1) == ((rd_T40 l1 x5_1).f1)))) = true
     ·rw [if_pos c7] at H
      have c7b0 : (!(((rd_T40 l0 x5_1).f0) == ((rd_T40 l1 x5_1).f0)) || (!(((rd_T40 l0 x5_1).f1) == ((rd_T40 l1 x5_1).f1)))) = true := c7
      clear c7
      obtain rfl := Option.some.inj H
      obtain ⟨⟨ad483, e483, hx483_0, hx483_1⟩, p483, q483⟩ := wi (at_T40 HR0.out x5_1)
      cases e483
      obtain ⟨⟨ad484, e484, hx484_0, hx484_1⟩, p484, q484⟩ := wi (at_T40 HR1.out x5_1)
      cases e484
      go_wp2
      repeat (go_quiet (fail); try go_wp2)
      go_ret
      exact ⟨zz1, zz2⟩
     ·rw [if_neg c7] at H
      have c7b0 : (!(((rd_T40 l0 x5_1).f0) == ((rd_T40 l1 x5_1).f0)) || (!(((rd_T40 l0 x5_1).f1) == ((rd_T40 l1 x5_1).f1)))) = false := by simpa using c7
      clear c7
      have H' := Aside0.mk H
      clear H
      obtain ⟨⟨ad483, e483, hx483_0, hx483_1⟩, p483, q483⟩ := wi (at_T40 HR0.out x5_1)
      cases e483
      obtain ⟨⟨ad484, e484, hx484_0, hx484_1⟩, p484, q484⟩ := wi (at_T40 HR1.out x5_1)
      cases e484
      go_wp2
      repeat (go_quiet (fail); try go_wp2)
      go_roundg k1
      case measure => have := HK1.out; omega
      case rel => exact ⟨(wrap64 (x5_1 + 1)), zz1, H', ⟨zz3 HK1⟩, zz2⟩
    ·obtain rfl := Option.some.inj H
     go_wp2
     repeat (go_quiet (fail); try go_wp2)
     go_ret
     exact ⟨zz1, zz2⟩
 ·rw [if_neg c3] at H
  have c3b0 : ((l0.length : Int) == (l1.length : Int)) = false := beq_eq_false_iff_ne.mpr c3
  have c3b1 : ((l0.length : Int) != (l1.length : Int)) = true := bne_iff_ne.mpr c3
  have c3b2 : (l0.length == l1.length) = false := by first | simpa using c3 | (simp at c3 ⊢; omega)
  obtain rfl := Option.some.inj H
  go_enter Try.func74, Try.ntmps74
  go_wp2
  repeat (go_quiet (fail); try go_wp2)
  go_ret
  exact ⟨zz1, zz2⟩
def spec_SetOk.f (k : Nat) (l0 : List (S40)) : Option (Bool) := (spec_l2Blocks.f k l0).bind fun t485 => (if t485 = true then ((spec_l2Spans.f k l0).bind fun t486 => ((spec_l2Cover.f k t486).bind fun t489 => ((spec_l2Same.f k l0 t489).bind fun t492 => (some t492)))) else (some false))
set_option maxHeartbeats 8000000 in
set_option maxRecDepth 100000 in
theorem spec_SetOk.calls (k : Nat) (A0 : Option Addr) (c0 : Nat) (l0 : List (S40)) (r : Bool) (w : World) (hr0 : Kd.C k40 w A0 l0.length l0) (hc0 : l0.length ≤ c0) (h : spec_SetOk.f k l0 = some r) :
  Calls Try.prog 28 #[.slice A0 l0.length c0] w fun e w' => e = .returned (.bool r) ∧ Below w.heap.size w w' := by
 have HR0 := Aside0.mk hr0
 have HC0 := Aside0.mk hc0
 clear hr0 hc0
 have HB := Aside0.mk (Below.refl w.heap.size w)
 have H : ((spec_l2Blocks.f k l0).bind fun t485 => (if t485 = true then ((spec_l2Spans.f k l0).bind fun t486 => ((spec_l2Cover.f k t486).bind fun t489 => ((spec_l2Same.f k l0 t489).bind fun t492 => (some t492)))) else (some false))) = some r := h
 clear h
 replace H := bd H
 obtain ⟨t485, A2, H⟩ := H
 replace H : (if t485 = true then ((spec_l2Spans.f k l0).bind fun t486 => ((spec_l2Cover.f k t486).bind fun t489 => ((spec_l2Same.f k l0 t489).bind fun t492 => (some t492)))) else (some false)) = some r := H
 by_cases c3 : t485 = true
 ·subst c3
  have H1 : ((spec_l2Spans.f k l0).bind fun t486 => ((spec_l2Cover.f k t486).bind fun t489 => ((spec_l2Same.f k l0 t489).bind fun t492 => (some t492)))) = some r := by rw [if_pos rfl] at H; exact H
  clear H
  have H := H1
  clear H1
  replace H := bd H
  obtain ⟨t486, A4, H⟩ := H
  replace H : ((spec_l2Cover.f k t486).bind fun t489 => ((spec_l2Same.f k l0 t489).bind fun t492 => (some t492))) = some r := H
  replace H := bd H
  obtain ⟨t489, A5, H⟩ := H
  replace H : ((spec_l2Same.f k l0 t489).bind fun t492 => (some t492)) = some r := H
  replace H := bd H
  obtain ⟨t492, A6, H⟩ := H
  replace H : (some t492) = some r := H
  obtain rfl := Option.some.inj H
  go_enter Try.func28, Try.ntmps28
  go_wp2_with (first | (refine gc (some 4) Try.func65 #[.slice A0 l0.length c0] ?_; (with_reducible refine (spec_l2Blocks.calls k _ _ l0 true _ ?side1 ?side2 A2.out).mono ?_); (case side1 => exact zz9 HR0); (case side2 => exact HC0.out); rintro e w7 ⟨rfl, hb⟩; refine ⟨_, rfl, ?_⟩; replace HB := Aside0.mk (below_step zz5 hb); clear hb) | (go_at_call 67; (with_reducible refine (spec_l2Spans.calls k _ _ l0 t486 _ ?side1 ?side2 A4.out).mono ?_); (case side1 => exact zz22 HR0); (case side2 => exact HC0.out); rintro e w8 ⟨v487, rfl, ho0, hb⟩; have HO488 := Aside0.mk (Kd.R_lower ho0 (below_size zz5)); replace HB := Aside0.mk (below_step zz5 hb); clear hb ho0; obtain ⟨Ao9, co9, eo9⟩ := Kd.R_slice HO488.out; subst eo9) | (go_at_call 49; (with_reducible refine (spec_l2Cover.calls k _ _ t486 t489 _ ?side1 ?side2 A5.out).mono ?_); (case side1 => exact zz20 HO488); (case side2 => exact zz23 HO488); rintro e w10 ⟨v490, rfl, ho0, hb⟩; replace HO488 := Aside0.mk (Kd.R_below (zz12 HO488) hb); have HO491 := Aside0.mk (Kd.R_lower ho0 (below_size zz5)); replace HB := Aside0.mk (below_step zz5 hb); clear hb ho0; obtain ⟨Ao11, co11, eo11⟩ := Kd.R_slice HO491.out; subst eo11) | (go_at_call 74; (with_reducible refine (spec_l2Same.calls k _ _ l0 _ _ t489 t492 _ ?side1 ?side2 ?side3 ?side4 A6.out).mono ?_); (case side1 => exact zz22 HR0); (case side2 => exact HC0.out); (case side3 => exact zz20 HO491); (case side4 => exact zz23 HO491); rintro e w' ⟨rfl, ⟨nd, rfl⟩⟩))
  go_ret
  exact ⟨zz8, zz5⟩
 ·replace c3 := Bool.eq_false_iff.mpr c3
  subst c3
  have H1 : (some false) = some r := by rw [if_neg (show ¬ (false = true) by decide)] at H; exact H
  clear H
  have H := H1
  clear H1
  obtain rfl := Option.some.inj H
  go_enter Try.func28, Try.ntmps28
  go_wp2_with (first | (refine gc (some 4) Try.func65 #[.slice A0 l0.length c0] ?_; (with_reducible refine (spec_l2Blocks.calls k _ _ l0 false _ ?side1 ?side2 A2.out).mono ?_); (case side1 => exact zz9 HR0); (case side2 => exact HC0.out); rintro e w12 ⟨rfl, hb⟩; refine ⟨_, rfl, ?_⟩; replace HB := Aside0.mk (below_step zz5 hb); clear hb))
  go_ret
  exact ⟨zz8, zz5⟩
end Go.Proofs.Ythkjkmgbdahggaa.PL
