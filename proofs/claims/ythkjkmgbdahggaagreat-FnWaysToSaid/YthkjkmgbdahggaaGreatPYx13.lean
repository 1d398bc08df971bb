/- A text printed by this session's wip/myprint.py over the kit's print: contracts of functions of the given program, each at what its Lean function says. -/
import Derived.Test.YthkjkmgbdahggaaGreatPYx0
import Derived.Test.YthkjkmgbdahggaaGreatPYx2
import Derived.Test.YthkjkmgbdahggaaGreatPYx7
import Derived.Test.YthkjkmgbdahggaaGreatPYx9
import Derived.Test.YthkjkmgbdahggaaGreatPYx10
import Derived.Test.YthkjkmgbdahggaaGreatPYx11
import Derived.Test.YthkjkmgbdahggaaGreatPYx12
namespace Go.Proofs.YthkjkmgbdahggaaGreat.PY
open Go.RowKit Go.Proofs.YthkjkmgbdahggaaGreatW.PrintWords Go.Proofs.YthkjkmgbdahggaaGreatW.PrintLast Go.Proofs.YthkjkmgbdahggaaGreatW.PrintMore Go.Proofs.YthkjkmgbdahggaaGreat.Sq
attribute [local go_sem] max2_int min2_int max_two min_two max_three min_three max_four min_four   -- for this text's walks alone
set_option linter.unusedVariables false
set_option linter.unusedSimpArgs false
def impl_set.l0 : Nat → List (S32) → List (S50) → Int → Int → Option ((List (S32)))
 | 0, _, _, _, _ => none
 | k + 1, x3, x7, x8, x9 => if x9 < x8 then (if 0 ≤ x9 then (if x9 < (x7.length : Int) then ((impl_span_blocks.f k ((rd_T50 x7 x9).f0) ((rd_T50 x7 x9).f1)).bind fun t385 => (if x3.length + t385.length < 8796093022208 then (impl_set.l0 k (x3 ++ t385) x7 x8 (wrap64 (x9 + 1))) else (none))) else (none)) else (none)) else (some x3)
def impl_set.f (k : Nat) (l0 : List (S50)) : Option ((List (S32))) := (impl_union.f k l0).bind fun t380 => (impl_set.l0 k ([] : List (S32)) t380 (t380.length : Int) 0)
set_option maxHeartbeats 8000000 in
set_option maxRecDepth 100000 in
theorem impl_set.calls (k : Nat) (A0 : Option Addr) (c0 : Nat) (l0 : List (S50)) (r : List (S32)) (w : World) (hr0 : Kd.C k50 w A0 l0.length l0) (hc0 : l0.length ≤ c0) (h : impl_set.f k l0 = some r) :
  Calls Tryz.prog 22 #[.slice A0 l0.length c0] w fun e w' => ∃ v0_ : Value, e = .returned (v0_) ∧ Kd.R k32 32 w' w.heap.size (fun _ => True) v0_ r ∧ Below w.heap.size w w' := by
 have hu50 := Tryz.underlying50
 have HR0 := Aside0.mk hr0
 have HC0 := Aside0.mk hc0
 clear hr0 hc0
 have HB := Aside0.mk (Below.refl w.heap.size w)
 have H : ((impl_union.f k l0).bind fun t380 => (impl_set.l0 k ([] : List (S32)) t380 (t380.length : Int) 0)) = some r := h
 clear h
 replace H := bd H
 obtain ⟨t380, A2, H⟩ := H
 replace H : (impl_set.l0 k ([] : List (S32)) t380 (t380.length : Int) 0) = some r := H
 have H' := Aside0.mk H
 clear H
 go_enter Tryz.func22, Tryz.ntmps22
 go_wp2_with (first | (refine gc (some 7) Tryz.func45 #[.slice A0 l0.length c0] ?_; (with_reducible refine (impl_union.calls k _ _ l0 t380 _ ?side1 ?side2 A2.out).mono ?_); (case side1 => exact zz49 HR0); (case side2 => exact HC0.out); rintro e w3 ⟨v381, rfl, ho0, hb⟩; refine ⟨_, rfl, ?_⟩; have HO382 := Aside0.mk (Kd.R_lower ho0 (below_size zz3)); replace HB := Aside0.mk (below_step zz3 hb); clear hb ho0; obtain ⟨Ao4, co4, eo4⟩ := Kd.R_slice HO382.out; subst eo4))
 go_loopg [3, 9] k (fun kq v3 v9 w' => ∃ (x3_1 : List (S32)) (x9_1 : Int), v9 = .int .i64 x9_1 ∧ Aside0 (impl_set.l0 kq x3_1 t380 (t380.length : Int) x9_1 = some r) ∧ Aside0 (kq ≤ k) ∧ Aside0 (Kd.R k32 32 w' w.heap.size (fun _ => True) v3 x3_1) ∧ Aside0 (Kd.R k50 50 w' w.heap.size (fun _ => True) (.slice Ao4 t380.length co4) t380) ∧ Aside0 (Below w.heap.size w w'))
 case atStart => exact ⟨(([] : List (S32))), (0), zz8, H', ⟨Nat.le_refl _⟩, ⟨zz46⟩, ⟨zz22 HO382⟩, ⟨zz3⟩⟩
 case round =>
  clear H'
  try clear c2
  try clear p2
  try clear c4
  obtain ⟨x3_1, x9_1, rfl, HA, HK1, HO_3, HO_7, HB⟩ := hrel
  cases gk with
  | zero => exact absurd HA.out (by simp [impl_set.l0])
  | succ k1 =>
   have H := HA.out
   clear HA
   simp only [impl_set.l0] at H
   replace H := ic H
   rcases H with ⟨c5b0, H⟩ | ⟨c5b0, H⟩
   ·replace H := gd H
    obtain ⟨c6b0, H⟩ := H
    replace H := gd H
    obtain ⟨c7b0, H⟩ := H
    replace H := bd H
    obtain ⟨t385, A8, H⟩ := H
    replace H : (if x3_1.length + t385.length < 8796093022208 then (impl_set.l0 k1 (x3_1 ++ t385) t380 (t380.length : Int) (wrap64 (x9_1 + 1))) else (none)) = some r := H
    replace H := gp H
    obtain ⟨c9, H⟩ := H
    have LMc9 := Aside0.mk c9
    clear c9
    obtain ⟨y388, hy388⟩ : ∃ y_ : List (S32), y_ = (x3_1 ++ t385) := ⟨_, rfl⟩
    replace H : (impl_set.l0 k1 y388 t380 (t380.length : Int) (wrap64 (x9_1 + 1))) = some r := by first | (rw [hy388]; with_reducible exact H) | (have H2_ := (Option.bind_some _ _).symm.trans H; rw [hy388]; with_reducible exact H2_) | (have H2_ := (Option.bind_some _ _).symm.trans H; with_reducible exact H2_) | with_reducible exact H | (rw [hy388]; exact H) | exact H
    have Ny388 := Aside0.mk hy388
    clear hy388
    have H' := Aside0.mk H
    clear H
    obtain ⟨⟨ad383, e383, hx383_0, hx383_1⟩, p383, q383⟩ := wi (at_T50 (Kd.R_reads' HO_7.out).2.2 x9_1)
    cases e383
    go_wp2_with (first | (refine be 5 #[.int .i64 0, .int .i64 0] 50 ?_; intro gb384 hg w10 hbox hb; replace HO_3 := Aside0.mk (Kd.R_below (zz22 HO_3) hb); replace HO_7 := Aside0.mk (Kd.R_below (Kd.R_elderB (zz22 HO_7) gb384 (Nat.le_of_eq hg.symm)) hb); have BK384 := Aside0.mk hbox; have GW384 := Aside0.mk (zz16 : w.heap.size ≤ gb384); have GE384 := Aside0.mk (zz16 : w.heap.size ≤ gb384); replace HB := Aside0.mk (below_step zz3 hb); clear hb hbox hg; have hcz11_0 : w10.cell? ⟨gb384, 0, none⟩ = some (.int .i64 0) := (blk_cell BK384.out 0).trans rfl; have hcz11_1 : w10.cell? ⟨gb384, 1, none⟩ = some (.int .i64 0) := (blk_cell BK384.out 1).trans rfl; have hfz11_0 := blk_frozen BK384.out 0; have hfz11_1 := blk_frozen BK384.out 1) | (refine gc (some 15) Tryz.func46 #[.agg #[.int .i64 ((rd_T50 t380 x9_1).f0), .int .i64 ((rd_T50 t380 x9_1).f1)]] ?_; (with_reducible refine (impl_span_blocks.calls k1 ((rd_T50 t380 x9_1).f0) ((rd_T50 t380 x9_1).f1) t385 _ A8.out).mono ?_); rintro e w12 ⟨v386, rfl, ho0, hb⟩; refine ⟨_, rfl, ?_⟩; replace HO_7 := Aside0.mk (Kd.R_below (by (with_reducible repeat (first | apply Kd.R_alloc | apply Kd.R_drewN | apply Kd.R_drew)); exact (Kd.R_mono (Kd.R_far (p := ⟨gb384, 1, none⟩) (Kd.R_far (p := ⟨gb384, 0, none⟩) (Kd.R_mono HO_7.out (fun k_ hk => (⟨hk, hk.2⟩ : _ ∧ k_ ≠ gb384))) (fun _ hk => hk.2) (.int .i64 ((rd_T50 t380 x9_1).f0))) (fun _ hk => hk.2) (.int .i64 ((rd_T50 t380 x9_1).f1))) (fun _ h_ => h_.1))) hb); have HO387 := Aside0.mk (Kd.R_lower (Kd.R_new' ho0 (Kd.R_lt (by (with_reducible repeat (first | apply Kd.R_alloc | apply Kd.R_drewN | apply Kd.R_drew)); exact (Kd.R_mono (Kd.R_far (p := ⟨gb384, 1, none⟩) (Kd.R_far (p := ⟨gb384, 0, none⟩) (Kd.R_types HO_3.out BK384.out (by decide)) (fun _ hk => hk.2) (.int .i64 ((rd_T50 t380 x9_1).f0))) (fun _ hk => hk.2) (.int .i64 ((rd_T50 t380 x9_1).f1))) (fun _ h_ => h_.1))))) (below_size (zz6 GE384))); replace HO_3 := Aside0.mk (Kd.R_elder' (by (with_reducible repeat (first | apply Kd.R_alloc | apply Kd.R_drewN | apply Kd.R_drew)); exact (Kd.R_mono (Kd.R_far (p := ⟨gb384, 1, none⟩) (Kd.R_far (p := ⟨gb384, 0, none⟩) (Kd.R_types HO_3.out BK384.out (by decide)) (fun _ hk => hk.2) (.int .i64 ((rd_T50 t380 x9_1).f0))) (fun _ hk => hk.2) (.int .i64 ((rd_T50 t380 x9_1).f1))) (fun _ h_ => h_.1))) (Kd.R_base ho0) hb); replace BK384 := Aside0.mk (blk_below (g := gb384) (o := .cells #[.int .i64 ((rd_T50 t380 x9_1).f0), .int .i64 ((rd_T50 t380 x9_1).f1)] 50 (0, 0)) (by (with_reducible repeat (first | refine blk_drewN ?_ _ | refine blk_drew ?_ | refine blk_alloc ?_ _)); refine blk_put (cs := #[.int .i64 ((rd_T50 t380 x9_1).f0), .int .i64 0]) ?_ 1 _ rfl; (with_reducible repeat (first | refine blk_drewN ?_ _ | refine blk_drew ?_ | refine blk_alloc ?_ _)); refine blk_put (cs := #[.int .i64 0, .int .i64 0]) ?_ 0 _ rfl; (with_reducible repeat (first | refine blk_drewN ?_ _ | refine blk_drew ?_ | refine blk_alloc ?_ _)); exact BK384.out) hb); replace HB := Aside0.mk (below_step (zz6 GE384) hb); clear hb ho0; obtain ⟨Ao14, co14, eo14⟩ := Kd.R_slice HO387.out; subst eo14) | ((with_reducible refine gate_builtin (b := .append) (xs := #[.tmp 13, .tmp 15]) rfl ?_); at_builtin; refine Kd.R_append_rows k32 (w0 := w) w.heap.size rfl (.tmp 13) (.tmp 15) 26 32 (.agg #[(.int .i64 0), (.int .i64 0)]) 16 rfl Tryz.underlying26 info32 rfl (by decide) (by omega) u3 x3_1 t385 _ _ _ (fun k_ => some k_ ≠ (.slice Ao14 t385.length co14 : Value).ownBlock) (fun _ => False) rfl rfl ?aO ?aR (fun _ _ h => h) (fun _ h => h.elim) ?aF ?aB ?aS ?aL ?_; (case aR => exact zz31 HO387); (case aB => exact zz6 GE384); (case aF => exact (fun k_ hk => Kd.fresh' (Kd.R_lt (zz22 HO387)) k_ hk)); (case aO => exact zz24 HO_3); (case aS => exact zz27 GE384); (case aL => exact zz15 LMc9); intro v389 w13 ho hb hg hat; rw [← Ny388.out] at ho; replace HO_7 := Aside0.mk (Kd.R_over' (zz22 HO_7) (Kd.R_typed (zz22 HO_3)) (by decide) hg); replace BK384 := Aside0.mk (blk_grown (g := gb384) (o := .cells #[.int .i64 ((rd_T50 t380 x9_1).f0), .int .i64 ((rd_T50 t380 x9_1).f1)] 50 (0, 0)) (zz5 BK384) hg (Kd.R_ne HO_3.out BK384.out (by decide))); replace HO387 := Aside0.mk (Kd.R_after (ok := (fun _ => True)) (zz22 HO387) hg hat); replace HB := Aside0.mk hb; have HO390 := Aside0.mk ho; clear HO_3 ho hb hg hat))
    go_roundg k1
    case measure => have := HK1.out; omega
    case rel => exact ⟨(y388), (wrap64 (x9_1 + 1)), zz8, H', ⟨zz15 HK1⟩, ⟨zz25 HO390⟩, ⟨zz25 HO_7⟩, ⟨zz6 GE384⟩⟩
   ·obtain rfl := Option.some.inj H
    go_wp2
    go_ret
    exact ⟨_, zz13, zz22 HO_3, zz3⟩
mutual
def impl_WaysTo.j0 : Nat → List (S34) → Int → Bool → Option ((List (S32)) × Bool)
 | 0, _, _, _ => none
 | k + 1, x0, x1, x18 => if x18 = true then (some (([] : List (S32)), false)) else ((impl_blocksOf.f k (([x0] : List (List (S34))))).bind fun t396 => ((impl_bounds.f k t396).bind fun t399 => (impl_WaysTo.l0 k x0 x1 ([] : List (S50)) t399 t399 (t399.length : Int) 0)))
def impl_WaysTo.l0 : Nat → List (S34) → Int → List (S50) → List Int → List Int → Int → Int → Option ((List (S32)) × Bool)
 | 0, _, _, _, _, _, _, _ => none
 | k + 1, x0, x1, x6, x7, x23, x24, x25 => if x25 < x24 then (if 0 ≤ x25 then (if x25 < (x23.length : Int) then (if (wrap64 (x25 + 1)) < (x7.length : Int) then (if 0 ≤ (wrap64 (x25 + 1)) then ((impl_lead.f k x0 (rd x23 x25)).bind fun t411 => (if t411 = x1 then (if x6.length < 8796093022208 then (impl_WaysTo.l0 k x0 x1 (x6 ++ [(⟨rd x23 x25, wrap64 ((rd x7 (wrap64 (x25 + 1))) - 1)⟩ : S50)]) x7 x23 x24 (wrap64 (x25 + 1))) else (none)) else (impl_WaysTo.l0 k x0 x1 x6 x7 x23 x24 (wrap64 (x25 + 1))))) else (none)) else ((impl_lead.f k x0 (rd x23 x25)).bind fun t415 => (if t415 = x1 then (if x6.length < 8796093022208 then (impl_WaysTo.l0 k x0 x1 (x6 ++ [(⟨rd x23 x25, 4294967295⟩ : S50)]) x7 x23 x24 (wrap64 (x25 + 1))) else (none)) else (impl_WaysTo.l0 k x0 x1 x6 x7 x23 x24 (wrap64 (x25 + 1)))))) else (none)) else (none)) else ((impl_set.f k x6).bind fun t402 => ((impl_limited.f t402).bind fun bt405 => (some (bt405.1, bt405.2))))
end
def impl_WaysTo.f (k : Nat) (l0 : List (S34)) (a1 : Int) : Option ((List (S32)) × Bool) := (impl_WaysOk.f k l0).bind fun t391 => (if t391 = true then ((impl_in.f a1 (-1) 99).bind fun t392 => (impl_WaysTo.j0 k l0 a1 (!t392))) else (impl_WaysTo.j0 k l0 a1 true))
set_option maxHeartbeats 8000000 in
set_option maxRecDepth 100000 in
theorem impl_WaysTo.calls (k : Nat) (P0_ : Nat → Prop) (A0 : Option Addr) (c0 : Nat) (l0 : List (S34)) (a1 : Int) (r1 : List (S32)) (r2 : Bool) (w : World) (hs0 : Kd.V k34 34 w w.heap.size (fun k_ => P0_ k_) (.slice A0 l0.length c0) l0) (h : impl_WaysTo.f k l0 a1 = some (r1, r2)) :
  Calls Tryz.prog 5 #[.slice A0 l0.length c0, .int .i64 a1] w fun e w' => ∃ v0_ : Value, e = .returned (.tuple #[v0_, .bool r2]) ∧ Kd.R k32 32 w' w.heap.size (fun k_ => (w.heap.size ≤ k_)) v0_ r1 ∧ Below w.heap.size w w' := by
 have hu50 := Tryz.underlying50
 have HO0 := Aside0.mk (show Kd.V k34 34 w w.heap.size (fun k_ => (P0_ k_ ∨ w.heap.size ≤ k_)) (.slice A0 l0.length c0) l0 from Kd.V_mono hs0 (fun k_ hk => .inl hk))
 have HB := Aside0.mk (Below.refl w.heap.size w)
 have H : ((impl_WaysOk.f k l0).bind fun t391 => (if t391 = true then ((impl_in.f a1 (-1) 99).bind fun t392 => (impl_WaysTo.j0 k l0 a1 (!t392))) else (impl_WaysTo.j0 k l0 a1 true))) = some (r1, r2) := h
 clear h
 have HC3 := Aside0.mk H
 clear H
 go_enter Tryz.func5, Tryz.ntmps5
 go_upto_region 1 with (fail)
 go_cut [18] (fun v18 wc => ∃ (kq : Nat) (x18_2 : Bool), v18 = .bool x18_2 ∧ Aside0 (impl_WaysTo.j0 kq l0 a1 x18_2 = some (r1, r2)) ∧ Aside0 (kq ≤ k) ∧ Aside0 (Kd.V k34 34 wc w.heap.size (fun k_ => (P0_ k_ ∨ w.heap.size ≤ k_)) (.slice A0 l0.length c0) l0) ∧ Aside0 (Below w.heap.size w wc))
 case first =>
  have H := HC3.out
  clear HC3
  replace H := bd H
  obtain ⟨t391, A4, H⟩ := H
  replace H : (if t391 = true then ((impl_in.f a1 (-1) 99).bind fun t392 => (impl_WaysTo.j0 k l0 a1 (!t392))) else (impl_WaysTo.j0 k l0 a1 true)) = some (r1, r2) := H
  by_cases c5 : t391 = true
  ·subst c5
   have H1 : ((impl_in.f a1 (-1) 99).bind fun t392 => (impl_WaysTo.j0 k l0 a1 (!t392))) = some (r1, r2) := by rw [if_pos rfl] at H; exact H
   clear H
   have H := H1
   clear H1
   replace H := bd H
   obtain ⟨t392, A6, H⟩ := H
   replace H : (impl_WaysTo.j0 k l0 a1 (!t392)) = some (r1, r2) := H
   have H' := Aside0.mk H
   clear H
   go_wp2_with (first | (refine gc (some 12) Tryz.func16 #[.slice A0 l0.length c0] ?_; (with_reducible refine (impl_WaysOk.calls k _ _ l0 true _ ?side1 ?side2 A4.out).mono ?_); (case side1 => exact zz51 HO0); (case side2 => exact (Kd.V_reads' HO0.out).2.1); rintro e w7 ⟨rfl, hb⟩; refine ⟨_, rfl, ?_⟩; replace HO0 := Aside0.mk (Kd.V_below (zz52 HO0) hb); replace HB := Aside0.mk (below_step zz3 hb); clear hb) | (go_at_call 17; (with_reducible refine (impl_in.calls a1 (-1) 99 t392 _ A6.out).mono ?_); rintro e w' ⟨rfl, ⟨nd, rfl⟩⟩))
   go_meet
   case rel => exact ⟨_, (!t392), zz8, H', ⟨zz9⟩, ⟨zz52 HO0⟩, ⟨zz3⟩⟩
  ·replace c5 := Bool.eq_false_iff.mpr c5
   subst c5
   have H1 : (impl_WaysTo.j0 k l0 a1 true) = some (r1, r2) := by rw [if_neg (show ¬ (false = true) by decide)] at H; exact H
   clear H
   have H := H1
   clear H1
   have H' := Aside0.mk H
   clear H
   go_wp2_with (first | (refine gc (some 12) Tryz.func16 #[.slice A0 l0.length c0] ?_; (with_reducible refine (impl_WaysOk.calls k _ _ l0 false _ ?side1 ?side2 A4.out).mono ?_); (case side1 => exact zz51 HO0); (case side2 => exact (Kd.V_reads' HO0.out).2.1); rintro e w8 ⟨rfl, hb⟩; refine ⟨_, rfl, ?_⟩; replace HO0 := Aside0.mk (Kd.V_below (zz52 HO0) hb); replace HB := Aside0.mk (below_step zz3 hb); clear hb))
   go_meet
   case rel => exact ⟨_, (true), zz8, H', ⟨zz9⟩, ⟨zz52 HO0⟩, ⟨zz3⟩⟩
 case rest =>
  clear HC3
  try clear c1
  try clear p2
  try clear c5
  obtain ⟨kq, x18_2, rfl, HA, HJ2, HO_0, HB⟩ := hcut
  cases kq with
  | zero => exact absurd HA.out (by simp [impl_WaysTo.j0])
  | succ kj2 =>
   have H := HA.out
   clear HA
   simp only [impl_WaysTo.j0] at H
   by_cases c9 : x18_2 = true
   ·subst c9
    have H1 : (some (([] : List (S32)), false)) = some (r1, r2) := by rw [if_pos rfl] at H; exact H
    clear H
    have H := H1
    clear H1
    simp only [Option.some.injEq, Prod.mk.injEq] at H
    obtain ⟨rfl, rfl⟩ := H
    go_wp2
    go_ret2
    exact ⟨_, zz13, zz46, zz3⟩
   ·replace c9 := Bool.eq_false_iff.mpr c9
    subst c9
    have H1 : ((impl_blocksOf.f kj2 (([l0] : List (List (S34))))).bind fun t396 => ((impl_bounds.f kj2 t396).bind fun t399 => (impl_WaysTo.l0 kj2 l0 a1 ([] : List (S50)) t399 t399 (t399.length : Int) 0))) = some (r1, r2) := by rw [if_neg (show ¬ (false = true) by decide)] at H; exact H
    clear H
    have H := H1
    clear H1
    obtain ⟨y393, hy393⟩ : ∃ y_ : List (List (S34)), y_ = (([l0] : List (List (S34)))) := ⟨_, rfl⟩
    replace H : ((impl_blocksOf.f kj2 y393).bind fun t396 => ((impl_bounds.f kj2 t396).bind fun t399 => (impl_WaysTo.l0 kj2 l0 a1 ([] : List (S50)) t399 t399 (t399.length : Int) 0))) = some (r1, r2) := by first | (rw [hy393]; with_reducible exact H) | (have H2_ := (Option.bind_some _ _).symm.trans H; rw [hy393]; with_reducible exact H2_) | (have H2_ := (Option.bind_some _ _).symm.trans H; with_reducible exact H2_) | with_reducible exact H | (rw [hy393]; exact H) | exact H
    have Ny393 := Aside0.mk hy393
    clear hy393
    replace H := bd H
    obtain ⟨t396, A10, H⟩ := H
    replace H : ((impl_bounds.f kj2 t396).bind fun t399 => (impl_WaysTo.l0 kj2 l0 a1 ([] : List (S50)) t399 t399 (t399.length : Int) 0)) = some (r1, r2) := H
    replace H := bd H
    obtain ⟨t399, A11, H⟩ := H
    replace H : (impl_WaysTo.l0 kj2 l0 a1 ([] : List (S50)) t399 t399 (t399.length : Int) 0) = some (r1, r2) := H
    have H' := Aside0.mk H
    clear H
    go_wp2_with (first | (refine gt 20 ?_; refine Kd.N_lit (Kd.slice 34 k34) _ 23 ?hg (N' := 20) ?hd (xs := ([l0] : List (List (S34)))) (inner := [.slice A0 l0.length c0]) (ok := (fun k_ => (P0_ k_ ∨ w.heap.size ≤ k_))) (okp := (fun k_ => (P0_ k_ ∨ w.heap.size ≤ k_))) ?hr ?hp (fun _ hk => hk) ((show ∀ k_, wc.heap.size ≤ k_ → (fun k_ => (P0_ k_ ∨ w.heap.size ≤ k_)) k_ from fun k_ hk => (.inr (Nat.le_trans (below_size zz3) hk))) _ (Nat.le_refl _)) (Below.refl _ _) (Nat.le_refl _) (by simp) ?_; (case hd => rfl); (case hg => rfl); (case hr => exact zz26); (case hp => exact (Reps.one (show Kd.FK (Kd.slice 34 k34) _ _ l0 [.slice A0 l0.length c0] from (Kd.FK_slice_mk (Kd.V_reads' (Kd.V_mono (ok' := (fun k_ => (P0_ k_ ∨ w.heap.size ≤ k_))) (HO_0.out) (fun k_ hk => hk))).2.1 (Kd.V_F (Kd.V_mono (ok' := (fun k_ => (P0_ k_ ∨ w.heap.size ≤ k_))) (HO_0.out) (fun k_ hk => hk))))) (Reps.none _ _))); intro v394 w12 ho13 hb hg_ hnew_; clear hg_ hnew_; (first | rw [← Ny393.out] at ho13 | (simp only [Int.reduceToNat] at ho13; rw [← Ny393.out] at ho13)); replace HO_0 := Aside0.mk (Kd.V_elder' (zz52 HO_0) (Kd.N_base ho13) hb); have HO395 := Aside0.mk (Kd.N_lower ho13 (below_size zz3)); replace HB := Aside0.mk (below_step zz3 hb); clear hb ho13; obtain ⟨Ao14, co14, eo14⟩ := Kd.N_slice HO395.out; subst eo14) | (refine gc (some 21) Tryz.func19 #[.slice Ao14 y393.length co14] ?_; (with_reducible refine (impl_blocksOf.calls kj2 _ _ y393 t396 _ ?side1 ?side2 A10.out).mono ?_); (case side1 => repeat (first | exact (Kd.N_reads' HO395.out).2.2 | (with_reducible refine Kd.C_alloc ?_ _) | (with_reducible refine Kd.C_drewN ?_ _) | (with_reducible refine Kd.C_drew ?_))); (case side2 => exact (Kd.N_reads' HO395.out).2.1); rintro e w15 ⟨v397, rfl, ho0, hb⟩; refine ⟨_, rfl, ?_⟩; replace HO_0 := Aside0.mk (Kd.V_elder' (zz52 HO_0) (Kd.R_base ho0) hb); replace HO395 := Aside0.mk (Kd.N_elder' (by (with_reducible repeat (first | apply Kd.N_alloc | apply Kd.N_drewN | apply Kd.N_drew)); exact HO395.out) (Kd.R_base ho0) hb); have HO398 := Aside0.mk (Kd.R_lower (Kd.R_newM (M := fun k_ => (w.heap.size ≤ k_)) ho0 (below_size zz3) (fun k_ h_ => h_)) (below_size zz3)); replace HB := Aside0.mk (below_step zz3 hb); clear hb ho0; obtain ⟨Ao16, co16, eo16⟩ := Kd.R_slice HO398.out; subst eo16) | (refine gc (some 22) Tryz.func18 #[.slice Ao16 t396.length co16] ?_; (with_reducible refine (impl_bounds.calls kj2 _ _ t396 t399 _ ?side1 ?side2 A11.out).mono ?_); (case side1 => exact zz31 HO398); (case side2 => exact zz33 HO398); rintro e w17 ⟨v400, rfl, ho0, hb⟩; refine ⟨_, rfl, ?_⟩; replace HO_0 := Aside0.mk (Kd.V_elder' (zz52 HO_0) (Kd.R_base ho0) hb); replace HO395 := Aside0.mk (Kd.N_elder' (by (with_reducible repeat (first | apply Kd.N_alloc | apply Kd.N_drewN | apply Kd.N_drew)); exact HO395.out) (Kd.R_base ho0) hb); replace HO398 := Aside0.mk (Kd.R_below (zz22 HO398) hb); have HO401 := Aside0.mk (Kd.R_lower (Kd.R_newM (M := fun k_ => (w.heap.size ≤ k_)) ho0 (below_size zz3) (fun k_ h_ => h_)) (below_size zz3)); replace HB := Aside0.mk (below_step zz3 hb); clear hb ho0; obtain ⟨Ao18, co18, eo18⟩ := Kd.R_slice HO401.out; subst eo18))
    go_loopg [6, 25] kj2 (fun kq v6 v25 w' => ∃ (x6_2 : List (S50)) (x25_2 : Int), v25 = .int .i64 x25_2 ∧ Aside0 (impl_WaysTo.l0 kq l0 a1 x6_2 t399 t399 (t399.length : Int) x25_2 = some (r1, r2)) ∧ Aside0 (kq ≤ kj2) ∧ Aside0 (Kd.V k34 34 w' w.heap.size (fun k_ => (P0_ k_ ∨ w.heap.size ≤ k_) ∧ some k_ ≠ (v6 : Value).ownBlock ∧ some k_ ≠ ((.slice Ao18 t399.length co18) : Value).ownBlock ∧ some k_ ≠ ((.slice Ao18 t399.length co18) : Value).ownBlock) (.slice A0 l0.length c0) l0) ∧ Aside0 (Kd.R k50 50 w' w.heap.size (fun k_ => (w.heap.size ≤ k_)) v6 x6_2) ∧ Aside0 (Kd.R (Kd.int .i64) 3 w' w.heap.size (fun k_ => (w.heap.size ≤ k_)) (.slice Ao18 t399.length co18) t399) ∧ Aside0 (Kd.R (Kd.int .i64) 3 w' w.heap.size (fun k_ => (w.heap.size ≤ k_)) (.slice Ao18 t399.length co18) t399) ∧ Aside0 (Below w.heap.size w w'))
    case atStart => exact ⟨(([] : List (S50))), (0), zz8, H', ⟨Nat.le_refl _⟩, ⟨by (with_reducible repeat (first | apply Kd.V_alloc | apply Kd.V_drewN | apply Kd.V_drew)); exact Kd.V_mono HO_0.out (fun _ hk => ⟨hk.1.1.1, ⟨(by simp [Value.ownBlock]), ⟨hk.2, hk.2⟩⟩⟩)⟩, ⟨zz46⟩, ⟨zz53 HO401⟩, ⟨zz53 HO401⟩, ⟨zz3⟩⟩
    case round =>
     clear H'
     try clear c1
     try clear p2
     try clear c5
     try clear c9
     try clear c16
     try clear c18
     try clear p2
     obtain ⟨x6_2, x25_2, rfl, HA, HK2, HO_0, HO_6, HO_7, HO_23, HB⟩ := hrel
     cases gk with
     | zero => exact absurd HA.out (by simp [impl_WaysTo.l0])
     | succ k2 =>
      have H := HA.out
      clear HA
      simp only [impl_WaysTo.l0] at H
      replace H := ic H
      rcases H with ⟨c19b0, H⟩ | ⟨c19b0, H⟩
      ·replace H := gd H
       obtain ⟨c20b0, H⟩ := H
       replace H := gd H
       obtain ⟨c21b0, H⟩ := H
       replace H := ic H
       rcases H with ⟨c22b0, H⟩ | ⟨c22b0, H⟩
       ·obtain ⟨ji23, hji23⟩ : ∃ j_ : Int, (wrap64 (x25_2 + 1)) = j_ := ⟨_, rfl⟩
        replace H : (if 0 ≤ (ji23) then ((impl_lead.f k2 l0 (rd t399 x25_2)).bind fun t411 => (if t411 = a1 then (if x6_2.length < 8796093022208 then (impl_WaysTo.l0 k2 l0 a1 (x6_2 ++ [(⟨rd t399 x25_2, wrap64 ((rd t399 (ji23)) - 1)⟩ : S50)]) t399 t399 (t399.length : Int) ji23) else (none)) else (impl_WaysTo.l0 k2 l0 a1 x6_2 t399 t399 (t399.length : Int) ji23))) else (none)) = some (r1, r2) := by first | (rw [hji23] at H; exact H) | (simp only [hji23] at H ⊢; exact H)
        (try rw [hji23] at c22b0)
        have hji23w : (IntKind.i64.wrap (x25_2 + 1)) = ji23 := (i64_w _).trans hji23
        replace H := gd H
        obtain ⟨c24b0, H⟩ := H
        replace H := bd H
        obtain ⟨t411, A25, H⟩ := H
        replace H : (if t411 = a1 then (if x6_2.length < 8796093022208 then (impl_WaysTo.l0 k2 l0 a1 (x6_2 ++ [(⟨rd t399 x25_2, wrap64 ((rd t399 (ji23)) - 1)⟩ : S50)]) t399 t399 (t399.length : Int) ji23) else (none)) else (impl_WaysTo.l0 k2 l0 a1 x6_2 t399 t399 (t399.length : Int) ji23)) = some (r1, r2) := H
        by_cases c26 : t411 = a1
        ·rw [if_pos c26] at H
         have c26b0 : (t411 == a1) = true := beq_iff_eq.mpr c26
         have c26b1 : (t411 != a1) = false := bne_eq_false_iff_eq.mpr c26
         clear c26
         replace H := gp H
         obtain ⟨c27, H⟩ := H
         have LMc27 := Aside0.mk c27
         clear c27
         obtain ⟨y412, hy412⟩ : ∃ y_ : List (S50), y_ = (x6_2 ++ [(⟨rd t399 x25_2, wrap64 ((rd t399 (ji23)) - 1)⟩ : S50)]) := ⟨_, rfl⟩
         replace H : (impl_WaysTo.l0 k2 l0 a1 y412 t399 t399 (t399.length : Int) ji23) = some (r1, r2) := by first | (rw [hy412]; with_reducible exact H) | (have H2_ := (Option.bind_some _ _).symm.trans H; rw [hy412]; with_reducible exact H2_) | (have H2_ := (Option.bind_some _ _).symm.trans H; with_reducible exact H2_) | with_reducible exact H | (rw [hy412]; exact H) | exact H
         have Ny412 := Aside0.mk hy412
         clear hy412
         have H' := Aside0.mk H
         clear H
         have p409 : 0 ≤ (x25_2 : Int) := da
         have q409 : x25_2 < (t399.length : Int) := da
         obtain ⟨ad409, e409, hx409_0⟩ := Kd.at_int (Kd.R_reads' HO_23.out).2.2 x25_2 p409 q409
         cases e409
         replace p409 := eq_true p409
         replace q409 := eq_true q409
         have p410 : 0 ≤ ((ji23) : Int) := da
         have q410 : (ji23) < (t399.length : Int) := da
         obtain ⟨ad410, e410, hx410_0⟩ := Kd.at_int (Kd.R_reads' HO_7.out).2.2 (ji23) p410 q410
         obtain rfl : ad409 = ad410 := (by injection e410)
         replace p410 := eq_true p410
         replace q410 := eq_true q410
         go_wp2_with (first | (refine gc (some 43) Tryz.func20 #[.slice A0 l0.length c0, .int .i64 (rd t399 x25_2)] ?_; (with_reducible refine (impl_lead.calls k2 _ _ l0 (rd t399 x25_2) t411 _ ?side1 ?side2 A25.out).mono ?_); (case side1 => exact zz51 HO_0); (case side2 => exact (Kd.V_reads' HO_0.out).2.1); rintro e w28 ⟨rfl, hb⟩; refine ⟨_, rfl, ?_⟩; replace HO_0 := Aside0.mk (Kd.V_below (zz52 HO_0) hb); replace HO_6 := Aside0.mk (Kd.R_below (zz22 HO_6) hb); replace HO_7 := Aside0.mk (Kd.R_below (zz22 HO_7) hb); replace HO_23 := Aside0.mk (Kd.R_below (zz22 HO_23) hb); replace HB := Aside0.mk (below_step zz3 hb); clear hb) | ((with_reducible refine gate_builtin (b := .append) (xs := #[.tmp 46, .tmp 50]) rfl ?_); at_builtin; refine Kd.R_append k50 (w0 := w) w.heap.size rfl (.tmp 46) (.tmp 50) 46 50 (.agg #[(.int .i64 0), (.int .i64 0)]) 16 rfl Tryz.underlying46 info50 rfl (by decide) (by omega) u6 x6_2 (⟨rd t399 x25_2, wrap64 ((rd t399 (ji23)) - 1)⟩ : S50) [.int .i64 (rd t399 x25_2), .int .i64 (wrap64 ((rd t399 (ji23)) - 1))] (fun k_ => (w.heap.size ≤ k_)) (fun _ => False) rfl rfl ?aP (fun _ hk => hk.elim) ?aF ?aO ?aB ?aS ?aL ?_; (case aP => exact k50_mkM _ _ _ (⟨rd t399 x25_2, wrap64 ((rd t399 (ji23)) - 1)⟩ : S50)); (case aB => exact zz3); (case aF => exact zz54); (case aO => exact zz22 HO_6); (case aS => exact zz23); (case aL => exact zz15 LMc27); intro v413 w29 ho hb hg hat; rw [← Ny412.out] at ho; replace HO_0 := Aside0.mk (Kd.V_afterv (ok := (fun k_ => (P0_ k_ ∨ w.heap.size ≤ k_) ∧ some k_ ≠ (.slice (some ad409) t399.length co18 : Value).ownBlock ∧ some k_ ≠ (.slice (some ad409) t399.length co18 : Value).ownBlock)) (zz55 HO_0) hg hat); replace HO_7 := Aside0.mk (Kd.R_over' (zz22 HO_7) (Kd.R_typed (zz22 HO_6)) (by decide) hg); replace HO_23 := Aside0.mk (Kd.R_over' (zz22 HO_23) (Kd.R_typed (zz22 HO_6)) (by decide) hg); replace HB := Aside0.mk hb; have HO414 := Aside0.mk ho; clear HO_6 ho hb hg hat))
         go_roundg k2
         case measure => have := HJ2.out; have := HK2.out; omega
         case rel => exact ⟨(y412), (ji23), (by first | rfl | (simp; done) | (simp only [← hji23] <;> (first | rfl | simp)) | (simp [*]; done)), (by first | exact H' | (rw [hji23]; exact H') | (simp only [hji23]; exact H') | (simp only [← hji23] at H'; exact H')), ⟨zz39 HJ2 HK2⟩, ⟨zz56 HO_0⟩, ⟨zz22 HO414⟩, ⟨zz22 HO_7⟩, ⟨zz22 HO_23⟩, ⟨zz3⟩⟩
        ·rw [if_neg c26] at H
         have c26b0 : (t411 == a1) = false := beq_eq_false_iff_ne.mpr c26
         have c26b1 : (t411 != a1) = true := bne_iff_ne.mpr c26
         have H' := Aside0.mk H
         clear H
         have p409 : 0 ≤ (x25_2 : Int) := da
         have q409 : x25_2 < (t399.length : Int) := da
         obtain ⟨ad409, e409, hx409_0⟩ := Kd.at_int (Kd.R_reads' HO_23.out).2.2 x25_2 p409 q409
         cases e409
         replace p409 := eq_true p409
         replace q409 := eq_true q409
         have p410 : 0 ≤ ((ji23) : Int) := da
         have q410 : (ji23) < (t399.length : Int) := da
         obtain ⟨ad410, e410, hx410_0⟩ := Kd.at_int (Kd.R_reads' HO_7.out).2.2 (ji23) p410 q410
         obtain rfl : ad409 = ad410 := (by injection e410)
         replace p410 := eq_true p410
         replace q410 := eq_true q410
         go_wp2_with (first | (refine gc (some 43) Tryz.func20 #[.slice A0 l0.length c0, .int .i64 (rd t399 x25_2)] ?_; (with_reducible refine (impl_lead.calls k2 _ _ l0 (rd t399 x25_2) t411 _ ?side1 ?side2 A25.out).mono ?_); (case side1 => exact zz51 HO_0); (case side2 => exact (Kd.V_reads' HO_0.out).2.1); rintro e w30 ⟨rfl, hb⟩; refine ⟨_, rfl, ?_⟩; replace HO_0 := Aside0.mk (Kd.V_below (zz52 HO_0) hb); replace HO_6 := Aside0.mk (Kd.R_below (zz22 HO_6) hb); replace HO_7 := Aside0.mk (Kd.R_below (zz22 HO_7) hb); replace HO_23 := Aside0.mk (Kd.R_below (zz22 HO_23) hb); replace HB := Aside0.mk (below_step zz3 hb); clear hb))
         go_roundg k2
         case measure => have := HJ2.out; have := HK2.out; omega
         case rel => exact ⟨(x6_2), (ji23), (by first | rfl | (simp; done) | (simp only [← hji23] <;> (first | rfl | simp)) | (simp [*]; done)), (by first | exact H' | (rw [hji23]; exact H') | (simp only [hji23]; exact H') | (simp only [← hji23] at H'; exact H')), ⟨zz39 HJ2 HK2⟩, ⟨zz52 HO_0⟩, ⟨zz22 HO_6⟩, ⟨zz22 HO_7⟩, ⟨zz22 HO_23⟩, ⟨zz3⟩⟩
       ·replace H := Option.bind_eq_some_iff.mp H
        obtain ⟨t415, A310, H⟩ := H
        replace H : (if t415 = a1 then (if x6_2.length < 8796093022208 then (impl_WaysTo.l0 k2 l0 a1 (x6_2 ++ [(⟨rd t399 x25_2, 4294967295⟩ : S50)]) t399 t399 (t399.length : Int) (wrap64 (x25_2 + 1))) else (none)) else (impl_WaysTo.l0 k2 l0 a1 x6_2 t399 t399 (t399.length : Int) (wrap64 (x25_2 + 1)))) = some (r1, r2) := H
        have A31 := Aside0.mk A310
        clear A310
        by_cases c32 : t415 = a1
        ·rw [if_pos c32] at H
         have c32b0 : (t415 == a1) = true := beq_iff_eq.mpr c32
         have c32b1 : (t415 != a1) = false := bne_eq_false_iff_eq.mpr c32
         clear c32
         replace H := gp H
         obtain ⟨c33, H⟩ := H
         have LMc33 := Aside0.mk c33
         clear c33
         obtain ⟨y416, hy416⟩ : ∃ y_ : List (S50), y_ = (x6_2 ++ [(⟨rd t399 x25_2, 4294967295⟩ : S50)]) := ⟨_, rfl⟩
         replace H : (impl_WaysTo.l0 k2 l0 a1 y416 t399 t399 (t399.length : Int) (wrap64 (x25_2 + 1))) = some (r1, r2) := by first | (rw [hy416]; with_reducible exact H) | (have H2_ := (Option.bind_some _ _).symm.trans H; rw [hy416]; with_reducible exact H2_) | (have H2_ := (Option.bind_some _ _).symm.trans H; with_reducible exact H2_) | with_reducible exact H | (rw [hy416]; exact H) | exact H
         have Ny416 := Aside0.mk hy416
         clear hy416
         have H' := Aside0.mk H
         clear H
         have p409 : 0 ≤ (x25_2 : Int) := da
         have q409 : x25_2 < (t399.length : Int) := da
         obtain ⟨ad409, e409, hx409_0⟩ := Kd.at_int (Kd.R_reads' HO_23.out).2.2 x25_2 p409 q409
         cases e409
         replace p409 := eq_true p409
         replace q409 := eq_true q409
         go_wp2_with (first | (refine gc (some 43) Tryz.func20 #[.slice A0 l0.length c0, .int .i64 (rd t399 x25_2)] ?_; (with_reducible refine (impl_lead.calls k2 _ _ l0 (rd t399 x25_2) t415 _ ?side1 ?side2 A31.out).mono ?_); (case side1 => exact zz51 HO_0); (case side2 => exact (Kd.V_reads' HO_0.out).2.1); rintro e w34 ⟨rfl, hb⟩; refine ⟨_, rfl, ?_⟩; replace HO_0 := Aside0.mk (Kd.V_below (zz52 HO_0) hb); replace HO_6 := Aside0.mk (Kd.R_below (zz22 HO_6) hb); replace HO_7 := Aside0.mk (Kd.R_below (zz22 HO_7) hb); replace HO_23 := Aside0.mk (Kd.R_below (zz22 HO_23) hb); replace HB := Aside0.mk (below_step zz3 hb); clear hb) | ((with_reducible refine gate_builtin (b := .append) (xs := #[.tmp 46, .tmp 50]) rfl ?_); at_builtin; refine Kd.R_append k50 (w0 := w) w.heap.size rfl (.tmp 46) (.tmp 50) 46 50 (.agg #[(.int .i64 0), (.int .i64 0)]) 16 rfl Tryz.underlying46 info50 rfl (by decide) (by omega) u6 x6_2 (⟨rd t399 x25_2, 4294967295⟩ : S50) [.int .i64 (rd t399 x25_2), .int .i64 4294967295] (fun k_ => (w.heap.size ≤ k_)) (fun _ => False) rfl rfl ?aP (fun _ hk => hk.elim) ?aF ?aO ?aB ?aS ?aL ?_; (case aP => exact k50_mkM _ _ _ (⟨rd t399 x25_2, 4294967295⟩ : S50)); (case aB => exact zz3); (case aF => exact zz54); (case aO => exact zz22 HO_6); (case aS => exact zz23); (case aL => exact zz15 LMc33); intro v417 w35 ho hb hg hat; rw [← Ny416.out] at ho; replace HO_0 := Aside0.mk (Kd.V_afterv (ok := (fun k_ => (P0_ k_ ∨ w.heap.size ≤ k_) ∧ some k_ ≠ (.slice (some ad409) t399.length co18 : Value).ownBlock ∧ some k_ ≠ (.slice (some ad409) t399.length co18 : Value).ownBlock)) (zz55 HO_0) hg hat); replace HO_7 := Aside0.mk (Kd.R_over' (zz22 HO_7) (Kd.R_typed (zz22 HO_6)) (by decide) hg); replace HO_23 := Aside0.mk (Kd.R_over' (zz22 HO_23) (Kd.R_typed (zz22 HO_6)) (by decide) hg); replace HB := Aside0.mk hb; have HO418 := Aside0.mk ho; clear HO_6 ho hb hg hat))
         go_roundg k2
         case measure => have := HJ2.out; have := HK2.out; omega
         case rel => exact ⟨(y416), (wrap64 (x25_2 + 1)), zz8, H', ⟨zz39 HJ2 HK2⟩, ⟨zz56 HO_0⟩, ⟨zz22 HO418⟩, ⟨zz22 HO_7⟩, ⟨zz22 HO_23⟩, ⟨zz3⟩⟩
        ·rw [if_neg c32] at H
         have c32b0 : (t415 == a1) = false := beq_eq_false_iff_ne.mpr c32
         have c32b1 : (t415 != a1) = true := bne_iff_ne.mpr c32
         have H' := Aside0.mk H
         clear H
         have p409 : 0 ≤ (x25_2 : Int) := da
         have q409 : x25_2 < (t399.length : Int) := da
         obtain ⟨ad409, e409, hx409_0⟩ := Kd.at_int (Kd.R_reads' HO_23.out).2.2 x25_2 p409 q409
         cases e409
         replace p409 := eq_true p409
         replace q409 := eq_true q409
         go_wp2_with (first | (refine gc (some 43) Tryz.func20 #[.slice A0 l0.length c0, .int .i64 (rd t399 x25_2)] ?_; (with_reducible refine (impl_lead.calls k2 _ _ l0 (rd t399 x25_2) t415 _ ?side1 ?side2 A31.out).mono ?_); (case side1 => exact zz51 HO_0); (case side2 => exact (Kd.V_reads' HO_0.out).2.1); rintro e w36 ⟨rfl, hb⟩; refine ⟨_, rfl, ?_⟩; replace HO_0 := Aside0.mk (Kd.V_below (zz52 HO_0) hb); replace HO_6 := Aside0.mk (Kd.R_below (zz22 HO_6) hb); replace HO_7 := Aside0.mk (Kd.R_below (zz22 HO_7) hb); replace HO_23 := Aside0.mk (Kd.R_below (zz22 HO_23) hb); replace HB := Aside0.mk (below_step zz3 hb); clear hb))
         go_roundg k2
         case measure => have := HJ2.out; have := HK2.out; omega
         case rel => exact ⟨(x6_2), (wrap64 (x25_2 + 1)), zz8, H', ⟨zz39 HJ2 HK2⟩, ⟨zz52 HO_0⟩, ⟨zz22 HO_6⟩, ⟨zz22 HO_7⟩, ⟨zz22 HO_23⟩, ⟨zz3⟩⟩
      ·replace H := Option.bind_eq_some_iff.mp H
       obtain ⟨t402, A370, H⟩ := H
       replace H : ((impl_limited.f t402).bind fun bt405 => (some (bt405.1, bt405.2))) = some (r1, r2) := H
       have A37 := Aside0.mk A370
       clear A370
       replace H := bd H
       obtain ⟨⟨t405, t408⟩, A38, H⟩ := H
       replace H : (some (t405, t408)) = some (r1, r2) := H
       simp only [Option.some.injEq, Prod.mk.injEq] at H
       obtain ⟨rfl, rfl⟩ := H
       obtain ⟨Ao39, co39, eo39⟩ := Kd.R_slice HO_6.out
       subst eo39
       go_wp2_with (first | (refine gc (some 54) Tryz.func22 #[.slice Ao39 x6_2.length co39] ?_; (with_reducible refine (impl_set.calls k2 _ _ x6_2 t402 _ ?side1 ?side2 A37.out).mono ?_); (case side1 => exact zz31 HO_6); (case side2 => exact zz33 HO_6); rintro e w40 ⟨v403, rfl, ho0, hb⟩; refine ⟨_, rfl, ?_⟩; replace HO_0 := Aside0.mk (Kd.V_elder' (zz52 HO_0) (Kd.R_base ho0) hb); replace HO_6 := Aside0.mk (Kd.R_below (zz22 HO_6) hb); replace HO_7 := Aside0.mk (Kd.R_below (zz22 HO_7) hb); replace HO_23 := Aside0.mk (Kd.R_below (zz22 HO_23) hb); have HO404 := Aside0.mk (Kd.R_lower (Kd.R_newM (M := fun k_ => (w.heap.size ≤ k_)) ho0 (below_size zz3) (fun k_ h_ => h_)) (below_size zz3)); replace HB := Aside0.mk (below_step zz3 hb); clear hb ho0; obtain ⟨Ao41, co41, eo41⟩ := Kd.R_slice HO404.out; subst eo41) | (refine gc (some 55) Tryz.func21 #[.slice Ao41 t402.length co41] ?_; (with_reducible refine (impl_limited.calls (fun k_ => some k_ = (.slice Ao41 t402.length co41 : Value).ownBlock) (.slice Ao41 t402.length co41) t402 t405 t408 w _ ?side1 ?side2 A38.out).mono ?_); (case side1 => exact zz3); (case side2 => exact Kd.R_tight rfl HO404.out); rintro e w42 ⟨v406, rfl, ho0, hb, hkp⟩; refine ⟨_, rfl, ?_⟩; replace HO_0 := Aside0.mk (Kd.V_mono (ok' := fun k_ => (P0_ k_ ∨ w.heap.size ≤ k_) ∧ some k_ ≠ (.slice Ao39 x6_2.length co39 : Value).ownBlock ∧ some k_ ≠ (.slice Ao18 t399.length co18 : Value).ownBlock ∧ some k_ ≠ (.slice Ao18 t399.length co18 : Value).ownBlock ∧ some k_ ≠ (v406 : Value).ownBlock) (Kd.V_keptB (HO_0.out) hkp (fun k_ hk_ hs_ => (hk_.2) hs_)) (fun k_ hk_ => ⟨hk_.1.1.1, hk_.1.1.2.1, hk_.1.1.2.2.1, hk_.1.1.2.2.2, fun e_ => Or.elim (ho0.1 k_ e_.symm) (fun hs_ => hk_.2.1 hs_) (fun hn_ => Nat.not_le.2 hk_.2.2 hn_)⟩)); replace HO_6 := Aside0.mk (Kd.R_mono (ok' := fun k_ => (w.heap.size ≤ k_)) (Kd.R_keptB ((Kd.R_apart' HO_6.out (Kd.R_typed HO404.out) (by decide))) hkp (fun k_ hk_ hs_ => (hk_.2) hs_)) (fun k_ hk_ => hk_.1.1)); replace HO_7 := Aside0.mk (Kd.R_mono (ok' := fun k_ => (w.heap.size ≤ k_)) (Kd.R_keptB ((Kd.R_apart' HO_7.out (Kd.R_typed HO404.out) (by decide))) hkp (fun k_ hk_ hs_ => (hk_.2) hs_)) (fun k_ hk_ => hk_.1.1)); replace HO_23 := Aside0.mk (Kd.R_mono (ok' := fun k_ => (w.heap.size ≤ k_)) (Kd.R_keptB ((Kd.R_apart' HO_23.out (Kd.R_typed HO404.out) (by decide))) hkp (fun k_ hk_ hs_ => (hk_.2) hs_)) (fun k_ hk_ => hk_.1.1)); have HO407 := Aside0.mk (Kd.R_mono (ok' := fun k_ => (w.heap.size ≤ k_)) ho0 (fun k_ hk_ => Or.elim hk_ (fun hs_ => (HO404.out.1 k_ (hs_).symm).1) (fun hn_ => (Nat.le_trans (below_size zz3) hn_)))); replace HB := Aside0.mk hb; clear HO404 hb hkp ho0))
       go_ret2
       exact ⟨_, zz13, zz22 HO407, zz3⟩
def spec_l2Room.f (l0 : List (S32)) : Option ((List (S32)) × Bool) := if (l0.length : Int) > 64 then (some ((([] : List (S32))), false)) else (some (l0, true))
set_option maxHeartbeats 8000000 in
set_option maxRecDepth 100000 in
theorem spec_l2Room.calls (P0_ : Nat → Prop) (u9000_ : Value) (l0 : List (S32)) (r1 : List (S32)) (r2 : Bool) (w0 w : World) (hB : Below w0.heap.size w0 w) (ho0 : Kd.R k32 32 w w0.heap.size P0_ u9000_ l0) (h : spec_l2Room.f l0 = some (r1, r2)) :
  Calls Tryz.prog 25 #[u9000_] w fun e w' => ∃ v0_ : Value, e = .returned (.tuple #[v0_, .bool r2]) ∧ Kd.R k32 32 w' w0.heap.size (fun k_ => (P0_ k_ ∨ w.heap.size ≤ k_)) v0_ r1 ∧ Below w0.heap.size w0 w' ∧ Kept w w' (fun k_ => P0_ k_) := by
 have HO0 := Aside0.mk (show Kd.R k32 32 w w0.heap.size (fun k_ => (P0_ k_ ∨ w.heap.size ≤ k_)) u9000_ l0 from Kd.R_mono ho0 (fun k_ hk => (.inl hk)))
 have HK := Aside0.mk (Kept.refl w (fun k_ => P0_ k_))
 have HW0 := Aside0.mk hB.size
 have HB := Aside0.mk hB
 clear hB
 have H : (if (l0.length : Int) > 64 then (some ((([] : List (S32))), false)) else (some (l0, true))) = some (r1, r2) := h
 clear h
 by_cases c2 : (l0.length : Int) > 64
 ·rw [if_pos c2] at H
  have c2b0 : decide (64 < (l0.length : Int)) = true := decide_eq_true c2
  have c2b1 : decide (64 < l0.length) = true := decide_eq_true (by omega)
  clear c2
  obtain ⟨y419, hy419⟩ : ∃ y_ : List (S32), y_ = (([] : List (S32))) := ⟨_, rfl⟩
  replace H : (some (y419, false)) = some (r1, r2) := by first | (rw [hy419]; with_reducible exact H) | (have H2_ := (Option.bind_some _ _).symm.trans H; rw [hy419]; with_reducible exact H2_) | (have H2_ := (Option.bind_some _ _).symm.trans H; with_reducible exact H2_) | with_reducible exact H | (rw [hy419]; exact H) | exact H
  have Ny419 := Aside0.mk hy419
  clear hy419
  simp only [Option.some.injEq, Prod.mk.injEq] at H
  obtain ⟨rfl, rfl⟩ := H
  obtain ⟨Ao3, co3, eo3⟩ := Kd.R_slice HO0.out
  subst eo3
  go_enter Tryz.func25, Tryz.ntmps25
  go_wp2_with (first | (refine gt 7 ?_; refine rl k32 32 7 ([] : List (S32)) [] ?hp ?_; (case hp => exact zz19); intro v420 w4 ho5 hb hg_ hnew_; clear hg_ hnew_; (first | rw [← Ny419.out] at ho5 | (simp only [Int.reduceToNat] at ho5; rw [← Ny419.out] at ho5)); have HO421 := Aside0.mk (Kd.R_lower (Kd.R_new' (Kd.R_newM (M := fun k_ => (P0_ k_ ∨ w.heap.size ≤ k_)) ho5 (by first | exact HK.out.1 | exact (show Kept w _ (fun k_ => P0_ k_) from zz48).1) (fun k_ h_ => .inr h_)) (Kd.R_lt (zz22 HO0))) (below_size zz3)); replace HO0 := Aside0.mk (Kd.R_elder' (zz22 HO0) (Kd.R_base ho5) hb); replace HK := Aside0.mk (Kept.below (S := (fun k_ => P0_ k_)) zz48 hb); replace HB := Aside0.mk (below_step zz3 hb); clear hb ho5))
  go_ret2
  exact ⟨_, zz13, by (with_reducible repeat (first | apply Kd.R_alloc | apply Kd.R_drewN | apply Kd.R_drew)); exact Kd.R_mono HO421.out (fun _ hk => hk.1.1), zz3, zz48⟩
 ·rw [if_neg c2] at H
  have c2b0 : decide (64 < (l0.length : Int)) = false := decide_eq_false c2
  have c2b1 : decide (64 < l0.length) = false := decide_eq_false (by omega)
  clear c2
  simp only [Option.some.injEq, Prod.mk.injEq] at H
  obtain ⟨rfl, rfl⟩ := H
  obtain ⟨Ao6, co6, eo6⟩ := Kd.R_slice HO0.out
  subst eo6
  go_enter Tryz.func25, Tryz.ntmps25
  go_wp2
  go_ret2
  exact ⟨_, zz13, zz22 HO0, zz3, zz48⟩
def spec_l2First.l0 : Nat → Int → Int → Int → Option (Int × Int)
 | 0, _, _, _ => none
 | k + 1, x0, x1, x5 => (spec_l1Size.f k x5).bind fun t423 => (if t423 = 0 then (none) else (if (Int.tmod x0 t423) = 0 then ((spec_l1Size.f k x5).bind fun t424 => (if (wrap64 ((wrap64 (x0 + t424)) - 1)) > x1 then (spec_l2First.l0 k x0 x1 (wrap64 (x5 + 1))) else (some (x0, x5)))) else (spec_l2First.l0 k x0 x1 (wrap64 (x5 + 1)))))
def spec_l2First.f (k : Nat) (a0 : Int) (a1 : Int) : Option (Int × Int) := spec_l2First.l0 k a0 a1 0
set_option maxHeartbeats 8000000 in
set_option maxRecDepth 100000 in
theorem spec_l2First.calls (k : Nat) (a0 : Int) (a1 : Int) (r1 : Int) (r2 : Int) (w : World) (h : spec_l2First.f k a0 a1 = some (r1, r2)) :
  Calls Tryz.prog 49 #[.int .i64 a0, .int .i64 a1] w fun e w' => e = .returned (.agg #[.int .i64 r1, .int .i64 r2]) ∧ Below w.heap.size w w' := by
 have hu32 := Tryz.underlying32
 have HB := Aside0.mk (Below.refl w.heap.size w)
 have H : (spec_l2First.l0 k a0 a1 0) = some (r1, r2) := h
 clear h
 have H' := Aside0.mk H
 clear H
 go_enter Tryz.func49, Tryz.ntmps49
 go_wp2_with (first | (refine be 4 #[.int .i64 0, .int .i64 0] 32 ?_; intro gb422 hg w3 hbox hb; have BK422 := Aside0.mk hbox; have GW422 := Aside0.mk (zz16 : w.heap.size ≤ gb422); have GE422 := Aside0.mk (zz16 : w.heap.size ≤ gb422); replace HB := Aside0.mk (below_step zz3 hb); clear hb hbox hg))
 go_loopg [5] k (fun kq v5 w' => ∃ (x5_1 : Int), v5 = .int .i64 x5_1 ∧ Aside0 (spec_l2First.l0 kq a0 a1 x5_1 = some (r1, r2)) ∧ Aside0 (kq ≤ k) ∧ Aside0 (w'.heap[gb422]? = some (.cells #[.int .i64 0, .int .i64 0] 32 (0, 0))) ∧ Aside0 (Below w.heap.size w w'))
 case atStart => exact ⟨(0), zz8, H', ⟨Nat.le_refl _⟩, ⟨zz5 BK422⟩, ⟨zz6 GE422⟩⟩
 case round =>
  clear H'
  try clear p2
  obtain ⟨x5_1, rfl, HA, HK1, BK422, HB⟩ := hrel
  cases gk with
  | zero => exact absurd HA.out (by simp [spec_l2First.l0])
  | succ k1 =>
   have H := HA.out
   clear HA
   simp only [spec_l2First.l0] at H
   replace H := bd H
   obtain ⟨t423, A4, H⟩ := H
   replace H : (if t423 = 0 then (none) else (if (Int.tmod a0 t423) = 0 then ((spec_l1Size.f k1 x5_1).bind fun t424 => (if (wrap64 ((wrap64 (a0 + t424)) - 1)) > a1 then (spec_l2First.l0 k1 a0 a1 (wrap64 (x5_1 + 1))) else (some (a0, x5_1)))) else (spec_l2First.l0 k1 a0 a1 (wrap64 (x5_1 + 1))))) = some (r1, r2) := H
   replace H := gn H
   obtain ⟨c5, H⟩ := H
   have c5b0 : (t423 == 0) = false := beq_eq_false_iff_ne.mpr c5
   have c5b1 : (t423 != 0) = true := bne_iff_ne.mpr c5
   by_cases c6 : (Int.tmod a0 t423) = 0
   ·rw [if_pos c6] at H
    have c6b0 : ((Int.tmod a0 t423) == 0) = true := beq_iff_eq.mpr c6
    have c6b1 : ((Int.tmod a0 t423) != 0) = false := bne_eq_false_iff_eq.mpr c6
    clear c6
    replace H := bd H
    obtain ⟨t424, A7, H⟩ := H
    replace H : (if (wrap64 ((wrap64 (a0 + t424)) - 1)) > a1 then (spec_l2First.l0 k1 a0 a1 (wrap64 (x5_1 + 1))) else (some (a0, x5_1))) = some (r1, r2) := H
    replace H := ic H
    rcases H with ⟨c8b0, H⟩ | ⟨c8b0, H⟩
    ·have H' := Aside0.mk H
     clear H
     go_wp2_with (first | (refine gc (some 8) Tryz.func50 #[.int .i64 x5_1] ?_; (with_reducible refine (spec_l1Size.calls k1 x5_1 t423 _ A4.out).mono ?_); rintro e w' ⟨rfl, ⟨nd, rfl⟩⟩; refine ⟨_, rfl, ?_⟩) | (go_at_call 50; (with_reducible refine (spec_l1Size.calls k1 x5_1 t424 _ A7.out).mono ?_); rintro e w' ⟨rfl, ⟨nd, rfl⟩⟩))
     go_roundg k1
     case measure => have := HK1.out; omega
     case rel => exact ⟨(wrap64 (x5_1 + 1)), zz8, H', ⟨zz15 HK1⟩, ⟨zz5 BK422⟩, ⟨zz6 GE422⟩⟩
    ·simp only [Option.some.injEq, Prod.mk.injEq] at H
     obtain ⟨rfl, rfl⟩ := H
     go_wp2_with (first | (refine gc (some 8) Tryz.func50 #[.int .i64 x5_1] ?_; (with_reducible refine (spec_l1Size.calls k1 x5_1 t423 _ A4.out).mono ?_); rintro e w' ⟨rfl, ⟨nd, rfl⟩⟩; refine ⟨_, rfl, ?_⟩; (try (rw [drewN_self wr]; generalize hq_ : World.drewN wr _ = wr; have n0_ : Aside0 (wr.heap[gb422]? = some (.cells #[.int .i64 0, .int .i64 0] 32 (0, 0))) := ⟨by rw [← hq_]; exact (zz5 BK422)⟩; have n1_ : Aside0 (Below w.heap.size w wr) := ⟨zz57 GE422⟩; clear BK422 HB hq_; have BK422 := n0_; have HB := n1_; clear n0_ n1_; have hcy422_0 : wr.cell? ⟨gb422, 0, none⟩ = some (.int .i64 0) := (blk_cell BK422.out 0).trans rfl; have hcy422_1 : wr.cell? ⟨gb422, 1, none⟩ = some (.int .i64 0) := (blk_cell BK422.out 1).trans rfl))) | (go_at_call 50; (with_reducible refine (spec_l1Size.calls k1 x5_1 t424 _ A7.out).mono ?_); rintro e w' ⟨rfl, ⟨nd, rfl⟩⟩; (try (rw [drewN_self wr]; generalize hq_ : World.drewN wr _ = wr; have n0_ : Aside0 (wr.heap[gb422]? = some (.cells #[.int .i64 0, .int .i64 0] 32 (0, 0))) := ⟨by rw [← hq_]; exact (zz5 BK422)⟩; have n1_ : Aside0 (Below w.heap.size w wr) := ⟨zz57 GE422⟩; clear BK422 HB hq_; have BK422 := n0_; have HB := n1_; clear n0_ n1_; have hcy422_0 : wr.cell? ⟨gb422, 0, none⟩ = some (.int .i64 0) := (blk_cell BK422.out 0).trans rfl; have hcy422_1 : wr.cell? ⟨gb422, 1, none⟩ = some (.int .i64 0) := (blk_cell BK422.out 1).trans rfl)); have hcz9_0 : wr.cell? ⟨gb422, 0, none⟩ = some (.int .i64 0) := (blk_cell BK422.out 0).trans rfl; have hcz9_1 : wr.cell? ⟨gb422, 1, none⟩ = some (.int .i64 0) := (blk_cell BK422.out 1).trans rfl; have hfz9_0 := blk_frozen BK422.out 0; have hfz9_1 := blk_frozen BK422.out 1))
     refine bodyPost_ret (results_cell_row rfl _ _ gb422 32 #[.int .i64 a0, .int .i64 x5_1] (0, 0) _ rfl (by (with_reducible repeat (first | refine blk_drewN ?_ _ | refine blk_drew ?_ | refine blk_alloc ?_ _)); refine blk_put (cs := #[.int .i64 a0, .int .i64 0]) ?_ 1 _ rfl; (with_reducible repeat (first | refine blk_drewN ?_ _ | refine blk_drew ?_ | refine blk_alloc ?_ _)); refine blk_put (cs := #[.int .i64 0, .int .i64 0]) ?_ 0 _ rfl; (with_reducible repeat (first | refine blk_drewN ?_ _ | refine blk_drew ?_ | refine blk_alloc ?_ _)); exact BK422.out) Tryz.underlying32 rfl (by kernel_rfl)) rfl ?_
     exact ⟨zz13, zz6 GE422⟩
   ·rw [if_neg c6] at H
    have c6b0 : ((Int.tmod a0 t423) == 0) = false := beq_eq_false_iff_ne.mpr c6
    have c6b1 : ((Int.tmod a0 t423) != 0) = true := bne_iff_ne.mpr c6
    have H' := Aside0.mk H
    clear H
    go_wp2_with (first | (refine gc (some 8) Tryz.func50 #[.int .i64 x5_1] ?_; (with_reducible refine (spec_l1Size.calls k1 x5_1 t423 _ A4.out).mono ?_); rintro e w' ⟨rfl, ⟨nd, rfl⟩⟩; refine ⟨_, rfl, ?_⟩))
    go_roundg k1
    case measure => have := HK1.out; omega
    case rel => exact ⟨(wrap64 (x5_1 + 1)), zz8, H', ⟨zz15 HK1⟩, ⟨zz5 BK422⟩, ⟨zz6 GE422⟩⟩
mutual
def spec_l2Cover.l0 : Nat → List (S73) → List (S32) → Int → Option ((List (S32)))
 | 0, _, _, _ => none
 | k + 1, x0, x3, x4 => if x4 < (x0.length : Int) then (if 0 ≤ x4 then (spec_l2Cover.l1 k x0 x3 x4 ((rd_T73 x0 x4).f0)) else (none)) else (some x3)
def spec_l2Cover.l1 : Nat → List (S73) → List (S32) → Int → Int → Option ((List (S32)))
 | 0, _, _, _, _ => none
 | k + 1, x0, x3, x4, x5 => if 0 ≤ x4 then (if x4 < (x0.length : Int) then (if x5 ≤ ((rd_T73 x0 x4).f1) then ((spec_l2First.f k x5 ((rd_T73 x0 x4).f1)).bind fun bt431 => (if x3.length < 8796093022208 then ((spec_l1Size.f k bt431.2).bind fun t437 => (spec_l2Cover.l1 k x0 (x3 ++ [(⟨bt431.1, bt431.2⟩ : S32)]) x4 (wrap64 (x5 + t437)))) else (none))) else (spec_l2Cover.l0 k x0 x3 (wrap64 (x4 + 1)))) else (none)) else (none)
end
def spec_l2Cover.f (k : Nat) (l0 : List (S73)) : Option ((List (S32))) := spec_l2Cover.l0 k l0 (([] : List (S32))) 0
set_option maxHeartbeats 8000000 in
set_option maxRecDepth 100000 in
theorem spec_l2Cover.calls (k : Nat) (A0 : Option Addr) (c0 : Nat) (l0 : List (S73)) (r : List (S32)) (w : World) (hr0 : Kd.C k73 w A0 l0.length l0) (hc0 : l0.length ≤ c0) (h : spec_l2Cover.f k l0 = some r) :
  Calls Tryz.prog 26 #[.slice A0 l0.length c0] w fun e w' => ∃ v0_ : Value, e = .returned (v0_) ∧ Kd.R k32 32 w' w.heap.size (fun _ => True) v0_ r ∧ Below w.heap.size w w' := by
 have hu32 := Tryz.underlying32
 have HR0 := Aside0.mk hr0
 have HC0 := Aside0.mk hc0
 clear hr0 hc0
 have HB := Aside0.mk (Below.refl w.heap.size w)
 have H : (spec_l2Cover.l0 k l0 (([] : List (S32))) 0) = some r := h
 clear h
 obtain ⟨y425, hy425⟩ : ∃ y_ : List (S32), y_ = (([] : List (S32))) := ⟨_, rfl⟩
 replace H : (spec_l2Cover.l0 k l0 y425 0) = some r := by first | (rw [hy425]; with_reducible exact H) | (have H2_ := (Option.bind_some _ _).symm.trans H; rw [hy425]; with_reducible exact H2_) | (have H2_ := (Option.bind_some _ _).symm.trans H; with_reducible exact H2_) | with_reducible exact H | (rw [hy425]; exact H) | exact H
 have Ny425 := Aside0.mk hy425
 clear hy425
 have H' := Aside0.mk H
 clear H
 go_enter Tryz.func26, Tryz.ntmps26
 go_wp2_with (first | (refine gt 7 ?_; refine rl k32 32 7 ([] : List (S32)) [] ?hp ?_; (case hp => exact zz19); intro v426 w2 ho3 hb hg_ hnew_; clear hg_ hnew_; (first | rw [← Ny425.out] at ho3 | (simp only [Int.reduceToNat] at ho3; rw [← Ny425.out] at ho3)); have HO427 := Aside0.mk (Kd.R_lower ho3 (below_size zz3)); replace HB := Aside0.mk (below_step zz3 hb); clear hb ho3))
 go_loopg [3, 4] k (fun kq v3 v4 w' => ∃ (x3_1 : List (S32)) (x4_1 : Int), v4 = .int .i64 x4_1 ∧ Aside0 (spec_l2Cover.l0 kq l0 x3_1 x4_1 = some r) ∧ Aside0 (kq ≤ k) ∧ Aside0 (Kd.R k32 32 w' w.heap.size (fun _ => True) v3 x3_1) ∧ Aside0 (Below w.heap.size w w'))
 case atStart => exact ⟨(y425), (0), zz8, H', ⟨Nat.le_refl _⟩, ⟨zz22 HO427⟩, ⟨zz3⟩⟩
 case round =>
  clear H'
  try clear c2
  try clear p2
  obtain ⟨x3_1, x4_1, rfl, HA, HK1, HO_3, HB⟩ := hrel
  cases gk with
  | zero => exact absurd HA.out (by simp [spec_l2Cover.l0])
  | succ k1 =>
   have H := HA.out
   clear HA
   simp only [spec_l2Cover.l0] at H
   replace H := ic H
   rcases H with ⟨c4b0, H⟩ | ⟨c4b0, H⟩
   ·replace H := gd H
    obtain ⟨c5b0, H⟩ := H
    have H' := Aside0.mk H
    clear H
    obtain ⟨⟨ad428, e428, hx428_0, hx428_1⟩, p428, q428⟩ := wi (at_T73 HR0.out x4_1)
    cases e428
    replace hx428_0 := (HB.out.cell (World.block_lt_of_cell? w _ hx428_0)).trans hx428_0
    replace hx428_1 := (HB.out.cell (World.block_lt_of_cell? w _ hx428_1)).trans hx428_1
    go_wp2
    go_loopg [3, 5] k1 (fun kq v3 v5 w' => ∃ (x3_2 : List (S32)) (x5_2 : Int), v5 = .int .i64 x5_2 ∧ Aside0 (spec_l2Cover.l1 kq l0 x3_2 x4_1 x5_2 = some r) ∧ Aside0 (kq ≤ k1) ∧ Aside0 (Kd.R k32 32 w' w.heap.size (fun _ => True) v3 x3_2) ∧ Aside0 (Below w.heap.size w w'))
    case atStart => exact ⟨(x3_1), ((rd_T73 l0 x4_1).f0), zz8, H', ⟨Nat.le_refl _⟩, ⟨zz22 HO_3⟩, ⟨zz3⟩⟩
    case round =>
     clear H'
     try clear c2
     try clear p2
     try clear c4
     try clear c4b0
     try clear p4
     try clear q4
     try clear hx4
     try clear c5
     try clear c5b0
     try clear hx428_0
     try clear hx428_1
     try clear p2
     try clear p428
     try clear q428
     obtain ⟨x3_2, x5_2, rfl, HA, HK2, HO_3, HB⟩ := hrel
     cases gk with
     | zero => exact absurd HA.out (by simp [spec_l2Cover.l1])
     | succ k2 =>
      have H := HA.out
      clear HA
      simp only [spec_l2Cover.l1] at H
      replace H := gd H
      obtain ⟨c6b0, H⟩ := H
      replace H := gd H
      obtain ⟨c7b0, H⟩ := H
      replace H := ic H
      rcases H with ⟨c8b0, H⟩ | ⟨c8b0, H⟩
      ·replace H := Option.bind_eq_some_iff.mp H
       obtain ⟨⟨t431, t432⟩, A90, H⟩ := H
       replace H : (if x3_2.length < 8796093022208 then ((spec_l1Size.f k2 t432).bind fun t437 => (spec_l2Cover.l1 k2 l0 (x3_2 ++ [(⟨t431, t432⟩ : S32)]) x4_1 (wrap64 (x5_2 + t437)))) else (none)) = some r := H
       have A9 := Aside0.mk A90
       clear A90
       replace H := gp H
       obtain ⟨c10, H⟩ := H
       have LMc10 := Aside0.mk c10
       clear c10
       obtain ⟨y434, hy434⟩ : ∃ y_ : List (S32), y_ = (x3_2 ++ [(⟨t431, t432⟩ : S32)]) := ⟨_, rfl⟩
       replace H : ((spec_l1Size.f k2 t432).bind fun t437 => (spec_l2Cover.l1 k2 l0 y434 x4_1 (wrap64 (x5_2 + t437)))) = some r := by first | (rw [hy434]; with_reducible exact H) | (have H2_ := (Option.bind_some _ _).symm.trans H; rw [hy434]; with_reducible exact H2_) | (have H2_ := (Option.bind_some _ _).symm.trans H; with_reducible exact H2_) | with_reducible exact H | (rw [hy434]; exact H) | exact H
       have Ny434 := Aside0.mk hy434
       clear hy434
       replace H := bd H
       obtain ⟨t437, A11, H⟩ := H
       replace H : (spec_l2Cover.l1 k2 l0 y434 x4_1 (wrap64 (x5_2 + t437))) = some r := H
       have H' := Aside0.mk H
       clear H
       obtain ⟨⟨ad429, e429, hx429_0, hx429_1⟩, p429, q429⟩ := wi (at_T73 HR0.out x4_1)
       obtain rfl : ad428 = ad429 := (by injection e429)
       replace hx429_0 := (HB.out.cell (World.block_lt_of_cell? w _ hx429_0)).trans hx429_0
       replace hx429_1 := (HB.out.cell (World.block_lt_of_cell? w _ hx429_1)).trans hx429_1
       obtain ⟨⟨ad430, e430, hx430_0, hx430_1⟩, p430, q430⟩ := wi (at_T73 HR0.out x4_1)
       obtain rfl : ad428 = ad430 := (by injection e430)
       replace hx430_0 := (HB.out.cell (World.block_lt_of_cell? w _ hx430_0)).trans hx430_0
       replace hx430_1 := (HB.out.cell (World.block_lt_of_cell? w _ hx430_1)).trans hx430_1
       go_wp2_with (first | (refine gc (some 32) Tryz.func49 #[.int .i64 x5_2, .int .i64 ((rd_T73 l0 x4_1).f1)] ?_; (with_reducible refine (spec_l2First.calls k2 x5_2 ((rd_T73 l0 x4_1).f1) t431 t432 _ A9.out).mono ?_); rintro e w12 ⟨rfl, hb⟩; refine ⟨_, rfl, ?_⟩; replace HO_3 := Aside0.mk (Kd.R_below (zz22 HO_3) hb); replace HB := Aside0.mk (below_step zz3 hb); clear hb) | (refine be 6 #[.int .i64 0, .int .i64 0] 32 ?_; intro gb433 hg w13 hbox hb; replace HO_3 := Aside0.mk (Kd.R_below (Kd.R_elderB (zz22 HO_3) gb433 (Nat.le_of_eq hg.symm)) hb); have BK433 := Aside0.mk hbox; have GW433 := Aside0.mk (zz16 : w.heap.size ≤ gb433); have GE433 := Aside0.mk (zz16 : w.heap.size ≤ gb433); replace HB := Aside0.mk (below_step zz3 hb); clear hb hbox hg; have hcz14_0 : w13.cell? ⟨gb433, 0, none⟩ = some (.int .i64 0) := (blk_cell BK433.out 0).trans rfl; have hcz14_1 : w13.cell? ⟨gb433, 1, none⟩ = some (.int .i64 0) := (blk_cell BK433.out 1).trans rfl; have hfz14_0 := blk_frozen BK433.out 0; have hfz14_1 := blk_frozen BK433.out 1) | ((with_reducible refine gate_builtin (b := .append) (xs := #[.tmp 33, .tmp 35]) rfl ?_); at_builtin; refine Kd.R_append k32 (w0 := w) w.heap.size rfl (.tmp 33) (.tmp 35) 26 32 (.agg #[(.int .i64 0), (.int .i64 0)]) 16 rfl Tryz.underlying26 info32 rfl (by decide) (by omega) u3 x3_2 (⟨t431, t432⟩ : S32) [.int .i64 t431, .int .i64 t432] (fun k_ => k_ ≠ gb433) (fun _ => False) rfl zz26 ?aP (fun _ hk => hk.elim) ?aF ?aO ?aB ?aS ?aL ?_; (case aP => exact k32_mkM _ _ _ (⟨t431, t432⟩ : S32)); (case aB => exact zz6 GE433); (case aF => exact (fun k_ hk => Kd.freshB (g := gb433) (o := .cells #[.int .i64 t431, .int .i64 t432] 32 (0, 0)) (by (with_reducible repeat (first | refine blk_drewN ?_ _ | refine blk_drew ?_ | refine blk_alloc ?_ _)); refine blk_put (cs := #[.int .i64 t431, .int .i64 0]) ?_ 1 _ rfl; (with_reducible repeat (first | refine blk_drewN ?_ _ | refine blk_drew ?_ | refine blk_alloc ?_ _)); refine blk_put (cs := #[.int .i64 0, .int .i64 0]) ?_ 0 _ rfl; (with_reducible repeat (first | refine blk_drewN ?_ _ | refine blk_drew ?_ | refine blk_alloc ?_ _)); exact BK433.out) k_ hk)); (case aO => (with_reducible repeat (first | apply Kd.R_alloc | apply Kd.R_drewN | apply Kd.R_drew)); exact Kd.R_mono (Kd.R_far (p := ⟨gb433, 1, none⟩) (Kd.R_far (p := ⟨gb433, 0, none⟩) (Kd.R_mono HO_3.out (fun k_ hk => (⟨hk, hk.2⟩ : _ ∧ k_ ≠ gb433))) (fun _ hk => hk.2) (.int .i64 t431)) (fun _ hk => hk.2) (.int .i64 t432)) (fun _ hk => hk.1.2)); (case aS => exact zz27 GE433); (case aL => exact zz15 LMc10); intro v435 w15 ho hb hg hat; rw [← Ny434.out] at ho; replace BK433 := Aside0.mk (blk_grown (g := gb433) (o := .cells #[.int .i64 t431, .int .i64 t432] 32 (0, 0)) (by (with_reducible repeat (first | refine blk_drewN ?_ _ | refine blk_drew ?_ | refine blk_alloc ?_ _)); refine blk_put (cs := #[.int .i64 t431, .int .i64 0]) ?_ 1 _ rfl; (with_reducible repeat (first | refine blk_drewN ?_ _ | refine blk_drew ?_ | refine blk_alloc ?_ _)); refine blk_put (cs := #[.int .i64 0, .int .i64 0]) ?_ 0 _ rfl; (with_reducible repeat (first | refine blk_drewN ?_ _ | refine blk_drew ?_ | refine blk_alloc ?_ _)); exact BK433.out) hg (Kd.R_away HO_3.out (fun _ hk => hk.2))); replace HB := Aside0.mk hb; have HO436 := Aside0.mk ho; clear HO_3 ho hb hg hat; have hcz16_0 : w15.cell? ⟨gb433, 0, none⟩ = some (.int .i64 t431) := (blk_cell BK433.out 0).trans rfl; have hcz16_1 : w15.cell? ⟨gb433, 1, none⟩ = some (.int .i64 t432) := (blk_cell BK433.out 1).trans rfl; have hfz16_0 := blk_frozen BK433.out 0; have hfz16_1 := blk_frozen BK433.out 1) | (refine gc (some 40) Tryz.func50 #[.int .i64 t432] ?_; (with_reducible refine (spec_l1Size.calls k2 t432 t437 _ A11.out).mono ?_); rintro e w' ⟨rfl, ⟨nd, rfl⟩⟩; refine ⟨_, rfl, ?_⟩))
       go_roundg k2
       case measure => have := HK1.out; have := HK2.out; omega
       case rel => exact ⟨(y434), (wrap64 (x5_2 + t437)), zz8, H', ⟨zz39 HK1 HK2⟩, ⟨zz25 HO436⟩, ⟨zz6 GE433⟩⟩
      ·have H' := Aside0.mk H
       clear H
       obtain ⟨⟨ad429, e429, hx429_0, hx429_1⟩, p429, q429⟩ := wi (at_T73 HR0.out x4_1)
       obtain rfl : ad428 = ad429 := (by injection e429)
       replace hx429_0 := (HB.out.cell (World.block_lt_of_cell? w _ hx429_0)).trans hx429_0
       replace hx429_1 := (HB.out.cell (World.block_lt_of_cell? w _ hx429_1)).trans hx429_1
       go_wp2
       go_roundg k2
       case measure => have := HK1.out; have := HK2.out; omega
       case rel => exact ⟨(x3_2), (wrap64 (x4_1 + 1)), zz8, H', ⟨zz39 HK1 HK2⟩, ⟨zz22 HO_3⟩, ⟨zz3⟩⟩
   ·obtain rfl := Option.some.inj H
    go_wp2
    go_ret
    exact ⟨_, zz13, zz22 HO_3, zz3⟩
end Go.Proofs.YthkjkmgbdahggaaGreat.PY
