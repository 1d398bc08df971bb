/- A text printed by this session's wip/myprint.py over the kit's print: contracts of functions of the given program, each at what its Lean function says. -/
import Derived.Test.YthkjkmgbdahggaaPLx0
import Derived.Test.YthkjkmgbdahggaaPLx7
import Derived.Test.YthkjkmgbdahggaaPLx12
namespace Go.Proofs.Ythkjkmgbdahggaa.PL
open Go.RowKit Go.Proofs.YthkjkmgbdahggaaW.PrintWords Go.Proofs.YthkjkmgbdahggaaW.PrintLast Go.Proofs.YthkjkmgbdahggaaW.PrintMore Go.Proofs.Ythkjkmgbdahggaa.Sq
attribute [local go_sem] max2_int min2_int max_two min_two max_three min_three max_four min_four   -- for this text's walks alone
set_option linter.unusedVariables false
set_option linter.unusedSimpArgs false
mutual
def impl_SetBoth.j0 : Nat → List (S40) → List (S40) → Bool → Option ((List (S40)) × Bool)
 | 0, _, _, _ => none
 | k + 1, x0, x1, x19 => if x19 = true then (some (([] : List (S40)), false)) else ((impl_spans.f k x0).bind fun t547 => (impl_SetBoth.l0 k x1 ([] : List (S68)) t547 (t547.length : Int) 0))
def impl_SetBoth.l0 : Nat → List (S40) → List (S68) → List (S68) → Int → Int → Option ((List (S40)) × Bool)
 | 0, _, _, _, _, _ => none
 | k + 1, x1, x6, x21, x22, x23 => if x23 < x22 then (if 0 ≤ x23 then (if x23 < (x21.length : Int) then ((impl_spans.f k x1).bind fun t559 => (impl_SetBoth.l1 k x1 x6 x21 x22 x23 t559 (t559.length : Int) 0 ((rd_T68 x21 x23).f0) ((rd_T68 x21 x23).f1))) else (none)) else (none)) else ((impl_set.f k x6).bind fun t550 => ((impl_limited.f t550).bind fun bt553 => (some (bt553.1, bt553.2))))
def impl_SetBoth.l1 : Nat → List (S40) → List (S68) → List (S68) → Int → Int → List (S68) → Int → Int → Int → Int → Option ((List (S40)) × Bool)
 | 0, _, _, _, _, _, _, _, _, _, _ => none
 | k + 1, x1, x6, x21, x22, x23, x28, x29, x30, x559000, x559001 => if x30 < x29 then (if 0 ≤ x30 then (if x30 < (x28.length : Int) then (if (mx x559000 ((rd_T68 x28 x30).f0)) ≤ (mn x559001 ((rd_T68 x28 x30).f1)) then (if x6.length < 8796093022208 then (impl_SetBoth.l1 k x1 (x6 ++ [(⟨mx x559000 ((rd_T68 x28 x30).f0), mn x559001 ((rd_T68 x28 x30).f1)⟩ : S68)]) x21 x22 x23 x28 x29 (wrap64 (x30 + 1)) x559000 x559001) else (none)) else (impl_SetBoth.l1 k x1 x6 x21 x22 x23 x28 x29 (wrap64 (x30 + 1)) x559000 x559001)) else (none)) else (none)) else (impl_SetBoth.l0 k x1 x6 x21 x22 (wrap64 (x23 + 1)))
end
def impl_SetBoth.f (k : Nat) (l0 : List (S40)) (l1 : List (S40)) : Option ((List (S40)) × Bool) := (impl_SetOk.f k l0).bind fun t545 => (if t545 = true then ((impl_SetOk.f k l1).bind fun t546 => (impl_SetBoth.j0 k l0 l1 (!t546))) else (impl_SetBoth.j0 k l0 l1 true))
set_option maxHeartbeats 8000000 in
set_option maxRecDepth 100000 in
theorem impl_SetBoth.calls (k : Nat) (A0 : Option Addr) (c0 : Nat) (l0 : List (S40)) (A1 : Option Addr) (c1 : Nat) (l1 : List (S40)) (r1 : List (S40)) (r2 : Bool) (w : World) (hr0 : Kd.C k40 w A0 l0.length l0) (hc0 : l0.length ≤ c0) (hr1 : Kd.C k40 w A1 l1.length l1) (hc1 : l1.length ≤ c1) (h : impl_SetBoth.f k l0 l1 = some (r1, r2)) :
  Calls Try.prog 33 #[.slice A0 l0.length c0, .slice A1 l1.length c1] w fun e w' => ∃ v0_ : Value, e = .returned (.tuple #[v0_, .bool r2]) ∧ Kd.R k40 40 w' w.heap.size (fun _ => True) v0_ r1 ∧ Below w.heap.size w w' := by
 have hu68 := Try.underlying68
 have HR0 := Aside0.mk hr0
 have HC0 := Aside0.mk hc0
 clear hr0 hc0
 have HR1 := Aside0.mk hr1
 have HC1 := Aside0.mk hc1
 clear hr1 hc1
 have HB := Aside0.mk (Below.refl w.heap.size w)
 have H : ((impl_SetOk.f k l0).bind fun t545 => (if t545 = true then ((impl_SetOk.f k l1).bind fun t546 => (impl_SetBoth.j0 k l0 l1 (!t546))) else (impl_SetBoth.j0 k l0 l1 true))) = some (r1, r2) := h
 clear h
 have HC3 := Aside0.mk H
 clear H
 go_enter Try.func33, Try.ntmps33
 go_upto_region 1 with (fail)
 go_cut [19] (fun v19 wc => ∃ (kq : Nat) (x19_2 : Bool), v19 = .bool x19_2 ∧ Aside0 (impl_SetBoth.j0 kq l0 l1 x19_2 = some (r1, r2)) ∧ Aside0 (kq ≤ k) ∧ Aside0 (Below w.heap.size w wc))
 case first =>
  have H := HC3.out
  clear HC3
  replace H := bd H
  obtain ⟨t545, A4, H⟩ := H
  replace H : (if t545 = true then ((impl_SetOk.f k l1).bind fun t546 => (impl_SetBoth.j0 k l0 l1 (!t546))) else (impl_SetBoth.j0 k l0 l1 true)) = some (r1, r2) := H
  by_cases c5 : t545 = true
  ·subst c5
   have H1 : ((impl_SetOk.f k l1).bind fun t546 => (impl_SetBoth.j0 k l0 l1 (!t546))) = some (r1, r2) := by rw [if_pos rfl] at H; exact H
   clear H
   have H := H1
   clear H1
   replace H := bd H
   obtain ⟨t546, A6, H⟩ := H
   replace H : (impl_SetBoth.j0 k l0 l1 (!t546)) = some (r1, r2) := H
   have H' := Aside0.mk H
   clear H
   go_wp2_with (first | (refine gc (some 13) Try.func13 #[.slice A0 l0.length c0] ?_; (with_reducible refine (impl_SetOk.calls k _ _ l0 true _ ?side1 ?side2 A4.out).mono ?_); (case side1 => exact zz22 HR0); (case side2 => exact HC0.out); rintro e w7 ⟨rfl, hb⟩; refine ⟨_, rfl, ?_⟩; replace HB := Aside0.mk (below_step zz5 hb); clear hb) | (go_at_call 13; (with_reducible refine (impl_SetOk.calls k _ _ l1 t546 _ ?side1 ?side2 A6.out).mono ?_); (case side1 => exact zz22 HR1); (case side2 => exact HC1.out); rintro e w8 ⟨rfl, hb⟩; replace HB := Aside0.mk (below_step zz5 hb); clear hb))
   go_meet
   case rel => exact ⟨_, (!t546), zz1, H', ⟨zz26⟩, ⟨zz5⟩⟩
  ·replace c5 := Bool.eq_false_iff.mpr c5
   subst c5
   have H1 : (impl_SetBoth.j0 k l0 l1 true) = some (r1, r2) := by rw [if_neg (show ¬ (false = true) by decide)] at H; exact H
   clear H
   have H := H1
   clear H1
   have H' := Aside0.mk H
   clear H
   go_wp2_with (first | (refine gc (some 13) Try.func13 #[.slice A0 l0.length c0] ?_; (with_reducible refine (impl_SetOk.calls k _ _ l0 false _ ?side1 ?side2 A4.out).mono ?_); (case side1 => exact zz22 HR0); (case side2 => exact HC0.out); rintro e w9 ⟨rfl, hb⟩; refine ⟨_, rfl, ?_⟩; replace HB := Aside0.mk (below_step zz5 hb); clear hb))
   go_meet
   case rel => exact ⟨_, (true), zz1, H', ⟨zz26⟩, ⟨zz5⟩⟩
 case rest =>
  clear HC3
  try clear c1
  try clear p2
  try clear c3
  try clear c5
  obtain ⟨kq, x19_2, rfl, HA, HJ2, HB⟩ := hcut
  cases kq with
  | zero => exact absurd HA.out (by simp [impl_SetBoth.j0])
  | succ kj2 =>
   have H := HA.out
   clear HA
   simp only [impl_SetBoth.j0] at H
   by_cases c10 : x19_2 = true
   ·subst c10
    have H1 : (some (([] : List (S40)), false)) = some (r1, r2) := by rw [if_pos rfl] at H; exact H
    clear H
    have H := H1
    clear H1
    simp only [Option.some.injEq, Prod.mk.injEq] at H
    obtain ⟨rfl, rfl⟩ := H
    go_wp2
    go_ret2
    exact ⟨_, zz8, zz11, zz5⟩
   ·replace c10 := Bool.eq_false_iff.mpr c10
    subst c10
    have H1 : ((impl_spans.f kj2 l0).bind fun t547 => (impl_SetBoth.l0 kj2 l1 ([] : List (S68)) t547 (t547.length : Int) 0)) = some (r1, r2) := by rw [if_neg (show ¬ (false = true) by decide)] at H; exact H
    clear H
    have H := H1
    clear H1
    replace H := bd H
    obtain ⟨t547, A11, H⟩ := H
    replace H : (impl_SetBoth.l0 kj2 l1 ([] : List (S68)) t547 (t547.length : Int) 0) = some (r1, r2) := H
    have H' := Aside0.mk H
    clear H
    go_wp2_with (first | (refine gc (some 21) Try.func53 #[.slice A0 l0.length c0] ?_; (with_reducible refine (impl_spans.calls kj2 _ _ l0 t547 _ ?side1 ?side2 A11.out).mono ?_); (case side1 => exact zz22 HR0); (case side2 => exact HC0.out); rintro e w12 ⟨v548, rfl, ho0, hb⟩; refine ⟨_, rfl, ?_⟩; have HO549 := Aside0.mk (Kd.R_lower ho0 (below_size zz5)); replace HB := Aside0.mk (below_step zz5 hb); clear hb ho0; obtain ⟨Ao13, co13, eo13⟩ := Kd.R_slice HO549.out; subst eo13))
    go_loopg [6, 23] kj2 (fun kq v6 v23 w' => ∃ (x6_2 : List (S68)) (x23_2 : Int), v23 = .int .i64 x23_2 ∧ Aside0 (impl_SetBoth.l0 kq l1 x6_2 t547 (t547.length : Int) x23_2 = some (r1, r2)) ∧ Aside0 (kq ≤ kj2) ∧ Aside0 (Kd.R k68 68 w' w.heap.size (fun k_ => some k_ ≠ ((.slice Ao13 t547.length co13) : Value).ownBlock) v6 x6_2) ∧ Aside0 (Kd.R k68 68 w' w.heap.size (fun k_ => some k_ ≠ (v6 : Value).ownBlock) (.slice Ao13 t547.length co13) t547) ∧ Aside0 (Below w.heap.size w w'))
    case atStart => exact ⟨(([] : List (S68))), (0), zz1, H', ⟨Nat.le_refl _⟩, ⟨zz11⟩, ⟨zz17 HO549⟩, ⟨zz5⟩⟩
    case round =>
     clear H'
     try clear c1
     try clear p2
     try clear c3
     try clear c5
     try clear c10
     try clear c13
     try clear p2
     obtain ⟨x6_2, x23_2, rfl, HA, HK2, HO_6, HO_21, HB⟩ := hrel
     cases gk with
     | zero => exact absurd HA.out (by simp [impl_SetBoth.l0])
     | succ k2 =>
      have H := HA.out
      clear HA
      simp only [impl_SetBoth.l0] at H
      replace H := ic H
      rcases H with ⟨c14b0, H⟩ | ⟨c14b0, H⟩
      ·replace H := gd H
       obtain ⟨c15b0, H⟩ := H
       replace H := gd H
       obtain ⟨c16b0, H⟩ := H
       replace H := bd H
       obtain ⟨t559, A17, H⟩ := H
       replace H : (impl_SetBoth.l1 k2 l1 x6_2 t547 (t547.length : Int) x23_2 t559 (t559.length : Int) 0 ((rd_T68 t547 x23_2).f0) ((rd_T68 t547 x23_2).f1)) = some (r1, r2) := H
       have H' := Aside0.mk H
       clear H
       obtain ⟨⟨ad557, e557, hx557_0, hx557_1⟩, p557, q557⟩ := wi (at_T68 (Kd.R_reads' HO_21.out).2.2 x23_2)
       cases e557
       go_wp2_with (first | (refine be 8 #[.int .i64 0, .int .i64 0] 68 ?_; intro gb558 hg w18 hbox hb; replace HO_6 := Aside0.mk (Kd.R_below (Kd.R_elderB (zz12 HO_6) gb558 (Nat.le_of_eq hg.symm)) hb); replace HO_21 := Aside0.mk (Kd.R_below (Kd.R_elderB (zz12 HO_21) gb558 (Nat.le_of_eq hg.symm)) hb); have BK558 := Aside0.mk hbox; have GW558 := Aside0.mk (zz4 : w.heap.size ≤ gb558); have GE558 := Aside0.mk (zz4 : w.heap.size ≤ gb558); replace HB := Aside0.mk (below_step zz5 hb); clear hb hbox hg; have hcz19_0 : w18.cell? ⟨gb558, 0, none⟩ = some (.int .i64 0) := (blk_cell BK558.out 0).trans rfl; have hcz19_1 : w18.cell? ⟨gb558, 1, none⟩ = some (.int .i64 0) := (blk_cell BK558.out 1).trans rfl; have hfz19_0 := blk_frozen BK558.out 0; have hfz19_1 := blk_frozen BK558.out 1) | (refine gc (some 28) Try.func53 #[.slice A1 l1.length c1] ?_; (with_reducible refine (impl_spans.calls k2 _ _ l1 t559 _ ?side1 ?side2 A17.out).mono ?_); (case side1 => exact zz63 HR1 GE558); (case side2 => exact HC1.out); rintro e w20 ⟨v560, rfl, ho0, hb⟩; refine ⟨_, rfl, ?_⟩; have HO561 := Aside0.mk (Kd.R_lower (Kd.R_newB (Kd.R_new' (Kd.R_new' ho0 (Kd.R_lt (by (with_reducible repeat (first | apply Kd.R_alloc | apply Kd.R_drewN | apply Kd.R_drew)); exact (Kd.R_mono (Kd.R_far (p := ⟨gb558, 1, none⟩) (Kd.R_far (p := ⟨gb558, 0, none⟩) (Kd.R_mono HO_6.out (fun k_ hk => (⟨hk, hk.2⟩ : _ ∧ k_ ≠ gb558))) (fun _ hk => hk.2) (.int .i64 ((rd_T68 t547 x23_2).f0))) (fun _ hk => hk.2) (.int .i64 ((rd_T68 t547 x23_2).f1))) (fun _ h_ => h_.1))))) (Kd.R_lt (by (with_reducible repeat (first | apply Kd.R_alloc | apply Kd.R_drewN | apply Kd.R_drew)); exact (Kd.R_mono (Kd.R_far (p := ⟨gb558, 1, none⟩) (Kd.R_far (p := ⟨gb558, 0, none⟩) (Kd.R_mono HO_21.out (fun k_ hk => (⟨hk, hk.2⟩ : _ ∧ k_ ≠ gb558))) (fun _ hk => hk.2) (.int .i64 ((rd_T68 t547 x23_2).f0))) (fun _ hk => hk.2) (.int .i64 ((rd_T68 t547 x23_2).f1))) (fun _ h_ => h_.1))))) (g := gb558) (o := .cells #[.int .i64 ((rd_T68 t547 x23_2).f0), .int .i64 ((rd_T68 t547 x23_2).f1)] 68 (0, 0)) (by (with_reducible repeat (first | refine blk_drewN ?_ _ | refine blk_drew ?_ | refine blk_alloc ?_ _)); refine blk_put (cs := #[.int .i64 ((rd_T68 t547 x23_2).f0), .int .i64 0]) ?_ 1 _ rfl; (with_reducible repeat (first | refine blk_drewN ?_ _ | refine blk_drew ?_ | refine blk_alloc ?_ _)); refine blk_put (cs := #[.int .i64 0, .int .i64 0]) ?_ 0 _ rfl; (with_reducible repeat (first | refine blk_drewN ?_ _ | refine blk_drew ?_ | refine blk_alloc ?_ _)); exact BK558.out)) (below_size (zz6 GE558))); replace HO_6 := Aside0.mk (Kd.R_elder' (by (with_reducible repeat (first | apply Kd.R_alloc | apply Kd.R_drewN | apply Kd.R_drew)); exact (Kd.R_mono (Kd.R_far (p := ⟨gb558, 1, none⟩) (Kd.R_far (p := ⟨gb558, 0, none⟩) (Kd.R_mono HO_6.out (fun k_ hk => (⟨hk, hk.2⟩ : _ ∧ k_ ≠ gb558))) (fun _ hk => hk.2) (.int .i64 ((rd_T68 t547 x23_2).f0))) (fun _ hk => hk.2) (.int .i64 ((rd_T68 t547 x23_2).f1))) (fun _ h_ => h_.1))) (Kd.R_base ho0) hb); replace HO_21 := Aside0.mk (Kd.R_elder' (by (with_reducible repeat (first | apply Kd.R_alloc | apply Kd.R_drewN | apply Kd.R_drew)); exact (Kd.R_mono (Kd.R_far (p := ⟨gb558, 1, none⟩) (Kd.R_far (p := ⟨gb558, 0, none⟩) (Kd.R_mono HO_21.out (fun k_ hk => (⟨hk, hk.2⟩ : _ ∧ k_ ≠ gb558))) (fun _ hk => hk.2) (.int .i64 ((rd_T68 t547 x23_2).f0))) (fun _ hk => hk.2) (.int .i64 ((rd_T68 t547 x23_2).f1))) (fun _ h_ => h_.1))) (Kd.R_base ho0) hb); replace BK558 := Aside0.mk (blk_below (g := gb558) (o := .cells #[.int .i64 ((rd_T68 t547 x23_2).f0), .int .i64 ((rd_T68 t547 x23_2).f1)] 68 (0, 0)) (by (with_reducible repeat (first | refine blk_drewN ?_ _ | refine blk_drew ?_ | refine blk_alloc ?_ _)); refine blk_put (cs := #[.int .i64 ((rd_T68 t547 x23_2).f0), .int .i64 0]) ?_ 1 _ rfl; (with_reducible repeat (first | refine blk_drewN ?_ _ | refine blk_drew ?_ | refine blk_alloc ?_ _)); refine blk_put (cs := #[.int .i64 0, .int .i64 0]) ?_ 0 _ rfl; (with_reducible repeat (first | refine blk_drewN ?_ _ | refine blk_drew ?_ | refine blk_alloc ?_ _)); exact BK558.out) hb); replace HB := Aside0.mk (below_step (zz6 GE558) hb); clear hb ho0; obtain ⟨Ao21, co21, eo21⟩ := Kd.R_slice HO561.out; subst eo21))
       go_loopg [6, 30] k2 (fun kq v6 v30 w' => ∃ (x6_3 : List (S68)) (x30_3 : Int), v30 = .int .i64 x30_3 ∧ Aside0 (impl_SetBoth.l1 kq l1 x6_3 t547 (t547.length : Int) x23_2 t559 (t559.length : Int) x30_3 ((rd_T68 t547 x23_2).f0) ((rd_T68 t547 x23_2).f1) = some (r1, r2)) ∧ Aside0 (kq ≤ k2) ∧ Aside0 (Kd.R k68 68 w' w.heap.size (fun k_ => some k_ ≠ ((.slice (some ad557) t547.length co13) : Value).ownBlock ∧ some k_ ≠ ((.slice Ao21 t559.length co21) : Value).ownBlock ∧ k_ ≠ gb558) v6 x6_3) ∧ Aside0 (Kd.R k68 68 w' w.heap.size (fun k_ => some k_ ≠ (v6 : Value).ownBlock ∧ some k_ ≠ ((.slice Ao21 t559.length co21) : Value).ownBlock ∧ k_ ≠ gb558) (.slice (some ad557) t547.length co13) t547) ∧ Aside0 (Kd.R k68 68 w' w.heap.size (fun k_ => some k_ ≠ (v6 : Value).ownBlock ∧ some k_ ≠ ((.slice (some ad557) t547.length co13) : Value).ownBlock ∧ k_ ≠ gb558) (.slice Ao21 t559.length co21) t559) ∧ Aside0 (w'.heap[gb558]? = some (.cells #[.int .i64 ((rd_T68 t547 x23_2).f0), .int .i64 ((rd_T68 t547 x23_2).f1)] 68 (0, 0))) ∧ Aside0 (Below w.heap.size w w'))
       case atStart => exact ⟨(x6_2), (0), zz1, H', ⟨Nat.le_refl _⟩, ⟨zz67 HO_6⟩, ⟨zz67 HO_21⟩, ⟨zz55 HO561⟩, ⟨zz7 BK558⟩, ⟨zz6 GE558⟩⟩
       case round =>
        clear H'
        try clear c1
        try clear p2
        try clear c3
        try clear c5
        try clear p5
        try clear q5
        try clear hx5
        try clear c10
        try clear c13
        try clear c14
        try clear c14b0
        try clear c15
        try clear c15b0
        try clear c16
        try clear c16b0
        try clear hcz19_0
        try clear hcz19_1
        try clear hfz19_0
        try clear hfz19_1
        try clear hx557_0
        try clear hx557_1
        try clear p2
        try clear p557
        try clear q557
        obtain ⟨x6_3, x30_3, rfl, HA, HK3, HO_6, HO_21, HO_28, BK558, HB⟩ := hrel
        cases gk with
        | zero => exact absurd HA.out (by simp [impl_SetBoth.l1])
        | succ k3 =>
         have H := HA.out
         clear HA
         simp only [impl_SetBoth.l1] at H
         replace H := ic H
         rcases H with ⟨c22b0, H⟩ | ⟨c22b0, H⟩
         ·replace H := gd H
          obtain ⟨c23b0, H⟩ := H
          replace H := gd H
          obtain ⟨c24b0, H⟩ := H
          obtain ⟨ji25, hji25⟩ : ∃ j_ : Int, (mx ((rd_T68 t547 x23_2).f0) ((rd_T68 t559 x30_3).f0)) = j_ := ⟨_, rfl⟩
          replace H : (if (ji25) ≤ (mn ((rd_T68 t547 x23_2).f1) ((rd_T68 t559 x30_3).f1)) then (if x6_3.length < 8796093022208 then (impl_SetBoth.l1 k3 l1 (x6_3 ++ [(⟨ji25, mn ((rd_T68 t547 x23_2).f1) ((rd_T68 t559 x30_3).f1)⟩ : S68)]) t547 (t547.length : Int) x23_2 t559 (t559.length : Int) (wrap64 (x30_3 + 1)) ((rd_T68 t547 x23_2).f0) ((rd_T68 t547 x23_2).f1)) else (none)) else (impl_SetBoth.l1 k3 l1 x6_3 t547 (t547.length : Int) x23_2 t559 (t559.length : Int) (wrap64 (x30_3 + 1)) ((rd_T68 t547 x23_2).f0) ((rd_T68 t547 x23_2).f1))) = some (r1, r2) := by first | (rw [hji25] at H; exact H) | (simp only [hji25] at H ⊢; exact H)
          have hji25_ : (if ((rd_T68 t547 x23_2).f0) < ((rd_T68 t559 x30_3).f0) then ((rd_T68 t559 x30_3).f0) else ((rd_T68 t547 x23_2).f0)) = ji25 := hji25
          obtain ⟨ji26, hji26⟩ : ∃ j_ : Int, (mn ((rd_T68 t547 x23_2).f1) ((rd_T68 t559 x30_3).f1)) = j_ := ⟨_, rfl⟩
          replace H : (if (ji25) ≤ (ji26) then (if x6_3.length < 8796093022208 then (impl_SetBoth.l1 k3 l1 (x6_3 ++ [(⟨ji25, ji26⟩ : S68)]) t547 (t547.length : Int) x23_2 t559 (t559.length : Int) (wrap64 (x30_3 + 1)) ((rd_T68 t547 x23_2).f0) ((rd_T68 t547 x23_2).f1)) else (none)) else (impl_SetBoth.l1 k3 l1 x6_3 t547 (t547.length : Int) x23_2 t559 (t559.length : Int) (wrap64 (x30_3 + 1)) ((rd_T68 t547 x23_2).f0) ((rd_T68 t547 x23_2).f1))) = some (r1, r2) := by first | (rw [hji26] at H; exact H) | (simp only [hji26] at H ⊢; exact H)
          have hji26_ : (if ((rd_T68 t559 x30_3).f1) < ((rd_T68 t547 x23_2).f1) then ((rd_T68 t559 x30_3).f1) else ((rd_T68 t547 x23_2).f1)) = ji26 := hji26
          replace H := ic H
          rcases H with ⟨c27b0, H⟩ | ⟨c27b0, H⟩
          ·replace H := gp H
           obtain ⟨c28, H⟩ := H
           have LMc28 := Aside0.mk c28
           clear c28
           obtain ⟨y565, hy565⟩ : ∃ y_ : List (S68), y_ = (x6_3 ++ [(⟨ji25, ji26⟩ : S68)]) := ⟨_, rfl⟩
           replace H : (impl_SetBoth.l1 k3 l1 y565 t547 (t547.length : Int) x23_2 t559 (t559.length : Int) (wrap64 (x30_3 + 1)) ((rd_T68 t547 x23_2).f0) ((rd_T68 t547 x23_2).f1)) = some (r1, r2) := by first | (rw [hy565]; with_reducible exact H) | (have H2_ := (Option.bind_some _ _).symm.trans H; rw [hy565]; with_reducible exact H2_) | (have H2_ := (Option.bind_some _ _).symm.trans H; with_reducible exact H2_) | with_reducible exact H | (rw [hy565]; exact H) | exact H
           have Ny565 := Aside0.mk hy565
           clear hy565
           have H' := Aside0.mk H
           clear H
           obtain ⟨⟨ad562, e562, hx562_0, hx562_1⟩, p562, q562⟩ := wi (at_T68 (Kd.R_reads' HO_28.out).2.2 x30_3)
           cases e562
           go_wp2_with (first | (refine be 10 #[.int .i64 0, .int .i64 0] 68 ?_; intro gb563 hg w29 hbox hb; replace HO_6 := Aside0.mk (Kd.R_below (Kd.R_elderB (zz12 HO_6) gb563 (Nat.le_of_eq hg.symm)) hb); replace HO_21 := Aside0.mk (Kd.R_below (Kd.R_elderB (zz12 HO_21) gb563 (Nat.le_of_eq hg.symm)) hb); replace HO_28 := Aside0.mk (Kd.R_below (Kd.R_elderB (zz12 HO_28) gb563 (Nat.le_of_eq hg.symm)) hb); have BK563 := Aside0.mk hbox; have GW563 := Aside0.mk (zz15 GE558 : w.heap.size ≤ gb563); have GE563 := Aside0.mk (zz15 GE558 : w.heap.size ≤ gb563); replace HB := Aside0.mk (below_step (zz6 GE558) hb); have NB558_563 := Aside0.mk (by rw [hg]; exact Nat.ne_of_lt (blk_lt (g := gb558) (o := .cells #[.int .i64 ((rd_T68 t547 x23_2).f0), .int .i64 ((rd_T68 t547 x23_2).f1)] 68 (0, 0)) (zz7 BK558)) : gb558 ≠ gb563); have NB563_558 := Aside0.mk (by rw [hg]; exact Nat.ne_of_gt (blk_lt (g := gb558) (o := .cells #[.int .i64 ((rd_T68 t547 x23_2).f0), .int .i64 ((rd_T68 t547 x23_2).f1)] 68 (0, 0)) (zz7 BK558)) : gb563 ≠ gb558); replace BK558 := Aside0.mk (blk_below (g := gb558) (o := .cells #[.int .i64 ((rd_T68 t547 x23_2).f0), .int .i64 ((rd_T68 t547 x23_2).f1)] 68 (0, 0)) (zz7 BK558) hb); clear hb hbox hg; have hnb30 := NB563_558.out; have hnc30 := NB558_563.out; have hcz31_0 : w29.cell? ⟨gb563, 0, none⟩ = some (.int .i64 0) := (blk_cell BK563.out 0).trans rfl; have hcz31_1 : w29.cell? ⟨gb563, 1, none⟩ = some (.int .i64 0) := (blk_cell BK563.out 1).trans rfl; have hfz31_0 := blk_frozen BK563.out 0; have hfz31_1 := blk_frozen BK563.out 1; have hcz32_0 : w29.cell? ⟨gb558, 0, none⟩ = some (.int .i64 ((rd_T68 t547 x23_2).f0)) := (blk_cell BK558.out 0).trans rfl; have hcz32_1 : w29.cell? ⟨gb558, 1, none⟩ = some (.int .i64 ((rd_T68 t547 x23_2).f1)) := (blk_cell BK558.out 1).trans rfl; have hfz32_0 := blk_frozen BK558.out 0; have hfz32_1 := blk_frozen BK558.out 1) | (refine be 11 #[.int .i64 0, .int .i64 0] 68 ?_; intro gb564 hg w33 hbox hb; replace HO_6 := Aside0.mk (Kd.R_below (Kd.R_elderB (by (with_reducible repeat (first | apply Kd.R_alloc | apply Kd.R_drewN | apply Kd.R_drew)); exact (Kd.R_mono (Kd.R_far (p := ⟨gb563, 1, none⟩) (Kd.R_far (p := ⟨gb563, 0, none⟩) (Kd.R_mono HO_6.out (fun k_ hk => (⟨hk, hk.2⟩ : _ ∧ k_ ≠ gb563))) (fun _ hk => hk.2) (.int .i64 ((rd_T68 t559 x30_3).f0))) (fun _ hk => hk.2) (.int .i64 ((rd_T68 t559 x30_3).f1))) (fun _ h_ => h_.1))) gb564 (Nat.le_of_eq hg.symm)) hb); replace HO_21 := Aside0.mk (Kd.R_below (Kd.R_elderB (by (with_reducible repeat (first | apply Kd.R_alloc | apply Kd.R_drewN | apply Kd.R_drew)); exact (Kd.R_mono (Kd.R_far (p := ⟨gb563, 1, none⟩) (Kd.R_far (p := ⟨gb563, 0, none⟩) (Kd.R_mono HO_21.out (fun k_ hk => (⟨hk, hk.2⟩ : _ ∧ k_ ≠ gb563))) (fun _ hk => hk.2) (.int .i64 ((rd_T68 t559 x30_3).f0))) (fun _ hk => hk.2) (.int .i64 ((rd_T68 t559 x30_3).f1))) (fun _ h_ => h_.1))) gb564 (Nat.le_of_eq hg.symm)) hb); replace HO_28 := Aside0.mk (Kd.R_below (Kd.R_elderB (by (with_reducible repeat (first | apply Kd.R_alloc | apply Kd.R_drewN | apply Kd.R_drew)); exact (Kd.R_mono (Kd.R_far (p := ⟨gb563, 1, none⟩) (Kd.R_far (p := ⟨gb563, 0, none⟩) (Kd.R_mono HO_28.out (fun k_ hk => (⟨hk, hk.2⟩ : _ ∧ k_ ≠ gb563))) (fun _ hk => hk.2) (.int .i64 ((rd_T68 t559 x30_3).f0))) (fun _ hk => hk.2) (.int .i64 ((rd_T68 t559 x30_3).f1))) (fun _ h_ => h_.1))) gb564 (Nat.le_of_eq hg.symm)) hb); have BK564 := Aside0.mk hbox; have GW564 := Aside0.mk (zz68 GE558 GE563 : w.heap.size ≤ gb564); have GE564 := Aside0.mk (zz68 GE558 GE563 : w.heap.size ≤ gb564); replace HB := Aside0.mk (below_step (zz16 GE558 GE563) hb); have NB558_564 := Aside0.mk (by rw [hg]; exact Nat.ne_of_lt (blk_lt (g := gb558) (o := .cells #[.int .i64 ((rd_T68 t547 x23_2).f0), .int .i64 ((rd_T68 t547 x23_2).f1)] 68 (0, 0)) (zz39 NB558_563 BK558)) : gb558 ≠ gb564); have NB564_558 := Aside0.mk (by rw [hg]; exact Nat.ne_of_gt (blk_lt (g := gb558) (o := .cells #[.int .i64 ((rd_T68 t547 x23_2).f0), .int .i64 ((rd_T68 t547 x23_2).f1)] 68 (0, 0)) (zz39 NB558_563 BK558)) : gb564 ≠ gb558); replace BK558 := Aside0.mk (blk_below (g := gb558) (o := .cells #[.int .i64 ((rd_T68 t547 x23_2).f0), .int .i64 ((rd_T68 t547 x23_2).f1)] 68 (0, 0)) (zz39 NB558_563 BK558) hb); have NB563_564 := Aside0.mk (by rw [hg]; exact Nat.ne_of_lt (blk_lt (g := gb563) (o := .cells #[.int .i64 ((rd_T68 t559 x30_3).f0), .int .i64 ((rd_T68 t559 x30_3).f1)] 68 (0, 0)) (by (with_reducible repeat (first | refine blk_drewN ?_ _ | refine blk_drew ?_ | refine blk_alloc ?_ _)); refine blk_put (cs := #[.int .i64 ((rd_T68 t559 x30_3).f0), .int .i64 0]) ?_ 1 _ rfl; (with_reducible repeat (first | refine blk_drewN ?_ _ | refine blk_drew ?_ | refine blk_alloc ?_ _)); refine blk_put (cs := #[.int .i64 0, .int .i64 0]) ?_ 0 _ rfl; (with_reducible repeat (first | refine blk_drewN ?_ _ | refine blk_drew ?_ | refine blk_alloc ?_ _)); exact BK563.out)) : gb563 ≠ gb564); have NB564_563 := Aside0.mk (by rw [hg]; exact Nat.ne_of_gt (blk_lt (g := gb563) (o := .cells #[.int .i64 ((rd_T68 t559 x30_3).f0), .int .i64 ((rd_T68 t559 x30_3).f1)] 68 (0, 0)) (by (with_reducible repeat (first | refine blk_drewN ?_ _ | refine blk_drew ?_ | refine blk_alloc ?_ _)); refine blk_put (cs := #[.int .i64 ((rd_T68 t559 x30_3).f0), .int .i64 0]) ?_ 1 _ rfl; (with_reducible repeat (first | refine blk_drewN ?_ _ | refine blk_drew ?_ | refine blk_alloc ?_ _)); refine blk_put (cs := #[.int .i64 0, .int .i64 0]) ?_ 0 _ rfl; (with_reducible repeat (first | refine blk_drewN ?_ _ | refine blk_drew ?_ | refine blk_alloc ?_ _)); exact BK563.out)) : gb564 ≠ gb563); replace BK563 := Aside0.mk (blk_below (g := gb563) (o := .cells #[.int .i64 ((rd_T68 t559 x30_3).f0), .int .i64 ((rd_T68 t559 x30_3).f1)] 68 (0, 0)) (by (with_reducible repeat (first | refine blk_drewN ?_ _ | refine blk_drew ?_ | refine blk_alloc ?_ _)); refine blk_put (cs := #[.int .i64 ((rd_T68 t559 x30_3).f0), .int .i64 0]) ?_ 1 _ rfl; (with_reducible repeat (first | refine blk_drewN ?_ _ | refine blk_drew ?_ | refine blk_alloc ?_ _)); refine blk_put (cs := #[.int .i64 0, .int .i64 0]) ?_ 0 _ rfl; (with_reducible repeat (first | refine blk_drewN ?_ _ | refine blk_drew ?_ | refine blk_alloc ?_ _)); exact BK563.out) hb); clear hb hbox hg; have hnb34 := NB564_558.out; have hnc34 := NB558_564.out; have hnb35 := NB564_563.out; have hnc35 := NB563_564.out; have hcz36_0 : w33.cell? ⟨gb564, 0, none⟩ = some (.int .i64 0) := (blk_cell BK564.out 0).trans rfl; have hcz36_1 : w33.cell? ⟨gb564, 1, none⟩ = some (.int .i64 0) := (blk_cell BK564.out 1).trans rfl; have hfz36_0 := blk_frozen BK564.out 0; have hfz36_1 := blk_frozen BK564.out 1) | ((with_reducible refine gate_builtin (b := .append) (xs := #[.tmp 50, .tmp 52]) rfl ?_); at_builtin; refine Kd.R_append k68 (w0 := w) w.heap.size rfl (.tmp 50) (.tmp 52) 75 68 (.agg #[(.int .i64 0), (.int .i64 0)]) 16 rfl Try.underlying75 info68 rfl (by decide) (by omega) u6 x6_3 (⟨ji25, ji26⟩ : S68) [.int .i64 ji25, .int .i64 ji26] (fun k_ => some k_ ≠ (.slice (some ad557) t547.length co13 : Value).ownBlock ∧ some k_ ≠ (.slice (some ad562) t559.length co21 : Value).ownBlock ∧ k_ ≠ gb558 ∧ k_ ≠ gb563 ∧ k_ ≠ gb564) (fun _ => False) rfl zz42 ?aP (fun _ hk => hk.elim) ?aF ?aO ?aB ?aS ?aL ?_; (case aP => exact k68_mkM _ _ _ (⟨ji25, ji26⟩ : S68)); (case aB => exact zz69 GE558 GE563 GE564); (case aF => exact (fun k_ hk => ⟨Kd.fresh' (Kd.R_lt (by (with_reducible repeat (first | apply Kd.R_alloc | apply Kd.R_drewN | apply Kd.R_drew)); exact (Kd.R_mono (Kd.R_far (p := ⟨gb564, 1, none⟩) (Kd.R_far (p := ⟨gb564, 0, none⟩) (Kd.R_mono HO_21.out (fun k_ hk => (⟨hk, hk.2⟩ : _ ∧ k_ ≠ gb564))) (fun _ hk => hk.2) (.int .i64 ji25)) (fun _ hk => hk.2) (.int .i64 ji26)) (fun _ h_ => h_.1)))) k_ hk, Kd.fresh' (Kd.R_lt (by (with_reducible repeat (first | apply Kd.R_alloc | apply Kd.R_drewN | apply Kd.R_drew)); exact (Kd.R_mono (Kd.R_far (p := ⟨gb564, 1, none⟩) (Kd.R_far (p := ⟨gb564, 0, none⟩) (Kd.R_mono HO_28.out (fun k_ hk => (⟨hk, hk.2⟩ : _ ∧ k_ ≠ gb564))) (fun _ hk => hk.2) (.int .i64 ji25)) (fun _ hk => hk.2) (.int .i64 ji26)) (fun _ h_ => h_.1)))) k_ hk, Kd.freshB (g := gb558) (o := .cells #[.int .i64 ((rd_T68 t547 x23_2).f0), .int .i64 ((rd_T68 t547 x23_2).f1)] 68 (0, 0)) (zz39 NB558_564 BK558) k_ hk, Kd.freshB (g := gb563) (o := .cells #[.int .i64 ((rd_T68 t559 x30_3).f0), .int .i64 ((rd_T68 t559 x30_3).f1)] 68 (0, 0)) (zz39 NB563_564 BK563) k_ hk, Kd.freshB (g := gb564) (o := .cells #[.int .i64 ji25, .int .i64 ji26] 68 (0, 0)) (by (with_reducible repeat (first | refine blk_drewN ?_ _ | refine blk_drew ?_ | refine blk_alloc ?_ _)); refine blk_put (cs := #[.int .i64 ji25, .int .i64 0]) ?_ 1 _ rfl; (with_reducible repeat (first | refine blk_drewN ?_ _ | refine blk_drew ?_ | refine blk_alloc ?_ _)); refine blk_put (cs := #[.int .i64 0, .int .i64 0]) ?_ 0 _ rfl; (with_reducible repeat (first | refine blk_drewN ?_ _ | refine blk_drew ?_ | refine blk_alloc ?_ _)); exact BK564.out) k_ hk⟩)); (case aO => (with_reducible repeat (first | apply Kd.R_alloc | apply Kd.R_drewN | apply Kd.R_drew)); exact Kd.R_mono (Kd.R_far (p := ⟨gb564, 1, none⟩) (Kd.R_far (p := ⟨gb564, 0, none⟩) (Kd.R_mono HO_6.out (fun k_ hk => (⟨hk, hk.2⟩ : _ ∧ k_ ≠ gb564))) (fun _ hk => hk.2) (.int .i64 ji25)) (fun _ hk => hk.2) (.int .i64 ji26)) (fun _ hk => ⟨hk.1.1.1.1, ⟨hk.1.1.1.2.1, ⟨hk.1.1.1.2.2, ⟨hk.1.1.2, hk.1.2⟩⟩⟩⟩)); (case aS => exact (below_size (zz69 GE558 GE563 GE564))); (case aL => exact zz3 LMc28); intro v566 w37 ho hb hg hat; rw [← Ny565.out] at ho; replace HO_21 := Aside0.mk (Kd.R_after (ok := (fun k_ => some k_ ≠ (.slice (some ad562) t559.length co21 : Value).ownBlock ∧ k_ ≠ gb558 ∧ k_ ≠ gb563 ∧ k_ ≠ gb564)) (by (with_reducible repeat (first | apply Kd.R_alloc | apply Kd.R_drewN | apply Kd.R_drew)); exact Kd.R_mono (Kd.R_far (p := ⟨gb564, 1, none⟩) (Kd.R_far (p := ⟨gb564, 0, none⟩) (Kd.R_mono HO_21.out (fun k_ hk => (⟨hk, hk.2⟩ : _ ∧ k_ ≠ gb564))) (fun _ hk => hk.2) (.int .i64 ji25)) (fun _ hk => hk.2) (.int .i64 ji26)) (fun _ hk => ⟨⟨hk.1.1.1.2.1, ⟨hk.1.1.1.2.2, ⟨hk.1.1.2, hk.1.2⟩⟩⟩, hk.1.1.1.1⟩)) hg hat); replace HO_28 := Aside0.mk (Kd.R_after (ok := (fun k_ => some k_ ≠ (.slice (some ad557) t547.length co13 : Value).ownBlock ∧ k_ ≠ gb558 ∧ k_ ≠ gb563 ∧ k_ ≠ gb564)) (by (with_reducible repeat (first | apply Kd.R_alloc | apply Kd.R_drewN | apply Kd.R_drew)); exact Kd.R_mono (Kd.R_far (p := ⟨gb564, 1, none⟩) (Kd.R_far (p := ⟨gb564, 0, none⟩) (Kd.R_mono HO_28.out (fun k_ hk => (⟨hk, hk.2⟩ : _ ∧ k_ ≠ gb564))) (fun _ hk => hk.2) (.int .i64 ji25)) (fun _ hk => hk.2) (.int .i64 ji26)) (fun _ hk => ⟨⟨hk.1.1.1.2.1, ⟨hk.1.1.1.2.2, ⟨hk.1.1.2, hk.1.2⟩⟩⟩, hk.1.1.1.1⟩)) hg hat); replace BK558 := Aside0.mk (blk_grown (g := gb558) (o := .cells #[.int .i64 ((rd_T68 t547 x23_2).f0), .int .i64 ((rd_T68 t547 x23_2).f1)] 68 (0, 0)) (zz39 NB558_564 BK558) hg (Kd.R_away HO_6.out (fun _ hk => hk.1.1.2.2))); replace BK563 := Aside0.mk (blk_grown (g := gb563) (o := .cells #[.int .i64 ((rd_T68 t559 x30_3).f0), .int .i64 ((rd_T68 t559 x30_3).f1)] 68 (0, 0)) (zz39 NB563_564 BK563) hg (Kd.R_away HO_6.out (fun _ hk => hk.1.2))); replace BK564 := Aside0.mk (blk_grown (g := gb564) (o := .cells #[.int .i64 ji25, .int .i64 ji26] 68 (0, 0)) (by (with_reducible repeat (first | refine blk_drewN ?_ _ | refine blk_drew ?_ | refine blk_alloc ?_ _)); refine blk_put (cs := #[.int .i64 ji25, .int .i64 0]) ?_ 1 _ rfl; (with_reducible repeat (first | refine blk_drewN ?_ _ | refine blk_drew ?_ | refine blk_alloc ?_ _)); refine blk_put (cs := #[.int .i64 0, .int .i64 0]) ?_ 0 _ rfl; (with_reducible repeat (first | refine blk_drewN ?_ _ | refine blk_drew ?_ | refine blk_alloc ?_ _)); exact BK564.out) hg (Kd.R_away HO_6.out (fun _ hk => hk.2))); replace HB := Aside0.mk hb; have HO567 := Aside0.mk ho; clear HO_6 ho hb hg hat))
           go_roundg k3
           case measure => have := HJ2.out; have := HK2.out; have := HK3.out; omega
           case rel => exact ⟨(y565), (wrap64 (x30_3 + 1)), zz1, H', ⟨zz59 HJ2 HK2 HK3⟩, ⟨zz65 HO567⟩, ⟨zz70 HO_21⟩, ⟨zz70 HO_28⟩, ⟨zz7 BK558⟩, ⟨zz69 GE558 GE563 GE564⟩⟩
          ·have H' := Aside0.mk H
           clear H
           obtain ⟨⟨ad562, e562, hx562_0, hx562_1⟩, p562, q562⟩ := wi (at_T68 (Kd.R_reads' HO_28.out).2.2 x30_3)
           cases e562
           go_wp2_with (first | (refine be 10 #[.int .i64 0, .int .i64 0] 68 ?_; intro gb563 hg w38 hbox hb; replace HO_6 := Aside0.mk (Kd.R_below (Kd.R_elderB (zz12 HO_6) gb563 (Nat.le_of_eq hg.symm)) hb); replace HO_21 := Aside0.mk (Kd.R_below (Kd.R_elderB (zz12 HO_21) gb563 (Nat.le_of_eq hg.symm)) hb); replace HO_28 := Aside0.mk (Kd.R_below (Kd.R_elderB (zz12 HO_28) gb563 (Nat.le_of_eq hg.symm)) hb); have BK563 := Aside0.mk hbox; have GW563 := Aside0.mk (zz15 GE558 : w.heap.size ≤ gb563); have GE563 := Aside0.mk (zz15 GE558 : w.heap.size ≤ gb563); replace HB := Aside0.mk (below_step (zz6 GE558) hb); have NB558_563 := Aside0.mk (by rw [hg]; exact Nat.ne_of_lt (blk_lt (g := gb558) (o := .cells #[.int .i64 ((rd_T68 t547 x23_2).f0), .int .i64 ((rd_T68 t547 x23_2).f1)] 68 (0, 0)) (zz7 BK558)) : gb558 ≠ gb563); have NB563_558 := Aside0.mk (by rw [hg]; exact Nat.ne_of_gt (blk_lt (g := gb558) (o := .cells #[.int .i64 ((rd_T68 t547 x23_2).f0), .int .i64 ((rd_T68 t547 x23_2).f1)] 68 (0, 0)) (zz7 BK558)) : gb563 ≠ gb558); replace BK558 := Aside0.mk (blk_below (g := gb558) (o := .cells #[.int .i64 ((rd_T68 t547 x23_2).f0), .int .i64 ((rd_T68 t547 x23_2).f1)] 68 (0, 0)) (zz7 BK558) hb); clear hb hbox hg; have hnb39 := NB563_558.out; have hnc39 := NB558_563.out; have hcz40_0 : w38.cell? ⟨gb563, 0, none⟩ = some (.int .i64 0) := (blk_cell BK563.out 0).trans rfl; have hcz40_1 : w38.cell? ⟨gb563, 1, none⟩ = some (.int .i64 0) := (blk_cell BK563.out 1).trans rfl; have hfz40_0 := blk_frozen BK563.out 0; have hfz40_1 := blk_frozen BK563.out 1; have hcz41_0 : w38.cell? ⟨gb558, 0, none⟩ = some (.int .i64 ((rd_T68 t547 x23_2).f0)) := (blk_cell BK558.out 0).trans rfl; have hcz41_1 : w38.cell? ⟨gb558, 1, none⟩ = some (.int .i64 ((rd_T68 t547 x23_2).f1)) := (blk_cell BK558.out 1).trans rfl; have hfz41_0 := blk_frozen BK558.out 0; have hfz41_1 := blk_frozen BK558.out 1) | (refine be 11 #[.int .i64 0, .int .i64 0] 68 ?_; intro gb564 hg w42 hbox hb; replace HO_6 := Aside0.mk (Kd.R_below (Kd.R_elderB (by (with_reducible repeat (first | apply Kd.R_alloc | apply Kd.R_drewN | apply Kd.R_drew)); exact (Kd.R_mono (Kd.R_far (p := ⟨gb563, 1, none⟩) (Kd.R_far (p := ⟨gb563, 0, none⟩) (Kd.R_mono HO_6.out (fun k_ hk => (⟨hk, hk.2⟩ : _ ∧ k_ ≠ gb563))) (fun _ hk => hk.2) (.int .i64 ((rd_T68 t559 x30_3).f0))) (fun _ hk => hk.2) (.int .i64 ((rd_T68 t559 x30_3).f1))) (fun _ h_ => h_.1))) gb564 (Nat.le_of_eq hg.symm)) hb); replace HO_21 := Aside0.mk (Kd.R_below (Kd.R_elderB (by (with_reducible repeat (first | apply Kd.R_alloc | apply Kd.R_drewN | apply Kd.R_drew)); exact (Kd.R_mono (Kd.R_far (p := ⟨gb563, 1, none⟩) (Kd.R_far (p := ⟨gb563, 0, none⟩) (Kd.R_mono HO_21.out (fun k_ hk => (⟨hk, hk.2⟩ : _ ∧ k_ ≠ gb563))) (fun _ hk => hk.2) (.int .i64 ((rd_T68 t559 x30_3).f0))) (fun _ hk => hk.2) (.int .i64 ((rd_T68 t559 x30_3).f1))) (fun _ h_ => h_.1))) gb564 (Nat.le_of_eq hg.symm)) hb); replace HO_28 := Aside0.mk (Kd.R_below (Kd.R_elderB (by (with_reducible repeat (first | apply Kd.R_alloc | apply Kd.R_drewN | apply Kd.R_drew)); exact (Kd.R_mono (Kd.R_far (p := ⟨gb563, 1, none⟩) (Kd.R_far (p := ⟨gb563, 0, none⟩) (Kd.R_mono HO_28.out (fun k_ hk => (⟨hk, hk.2⟩ : _ ∧ k_ ≠ gb563))) (fun _ hk => hk.2) (.int .i64 ((rd_T68 t559 x30_3).f0))) (fun _ hk => hk.2) (.int .i64 ((rd_T68 t559 x30_3).f1))) (fun _ h_ => h_.1))) gb564 (Nat.le_of_eq hg.symm)) hb); have BK564 := Aside0.mk hbox; have GW564 := Aside0.mk (zz68 GE558 GE563 : w.heap.size ≤ gb564); have GE564 := Aside0.mk (zz68 GE558 GE563 : w.heap.size ≤ gb564); replace HB := Aside0.mk (below_step (zz16 GE558 GE563) hb); have NB558_564 := Aside0.mk (by rw [hg]; exact Nat.ne_of_lt (blk_lt (g := gb558) (o := .cells #[.int .i64 ((rd_T68 t547 x23_2).f0), .int .i64 ((rd_T68 t547 x23_2).f1)] 68 (0, 0)) (zz39 NB558_563 BK558)) : gb558 ≠ gb564); have NB564_558 := Aside0.mk (by rw [hg]; exact Nat.ne_of_gt (blk_lt (g := gb558) (o := .cells #[.int .i64 ((rd_T68 t547 x23_2).f0), .int .i64 ((rd_T68 t547 x23_2).f1)] 68 (0, 0)) (zz39 NB558_563 BK558)) : gb564 ≠ gb558); replace BK558 := Aside0.mk (blk_below (g := gb558) (o := .cells #[.int .i64 ((rd_T68 t547 x23_2).f0), .int .i64 ((rd_T68 t547 x23_2).f1)] 68 (0, 0)) (zz39 NB558_563 BK558) hb); have NB563_564 := Aside0.mk (by rw [hg]; exact Nat.ne_of_lt (blk_lt (g := gb563) (o := .cells #[.int .i64 ((rd_T68 t559 x30_3).f0), .int .i64 ((rd_T68 t559 x30_3).f1)] 68 (0, 0)) (by (with_reducible repeat (first | refine blk_drewN ?_ _ | refine blk_drew ?_ | refine blk_alloc ?_ _)); refine blk_put (cs := #[.int .i64 ((rd_T68 t559 x30_3).f0), .int .i64 0]) ?_ 1 _ rfl; (with_reducible repeat (first | refine blk_drewN ?_ _ | refine blk_drew ?_ | refine blk_alloc ?_ _)); refine blk_put (cs := #[.int .i64 0, .int .i64 0]) ?_ 0 _ rfl; (with_reducible repeat (first | refine blk_drewN ?_ _ | refine blk_drew ?_ | refine blk_alloc ?_ _)); exact BK563.out)) : gb563 ≠ gb564); have NB564_563 := Aside0.mk (by rw [hg]; exact Nat.ne_of_gt (blk_lt (g := gb563) (o := .cells #[.int .i64 ((rd_T68 t559 x30_3).f0), .int .i64 ((rd_T68 t559 x30_3).f1)] 68 (0, 0)) (by (with_reducible repeat (first | refine blk_drewN ?_ _ | refine blk_drew ?_ | refine blk_alloc ?_ _)); refine blk_put (cs := #[.int .i64 ((rd_T68 t559 x30_3).f0), .int .i64 0]) ?_ 1 _ rfl; (with_reducible repeat (first | refine blk_drewN ?_ _ | refine blk_drew ?_ | refine blk_alloc ?_ _)); refine blk_put (cs := #[.int .i64 0, .int .i64 0]) ?_ 0 _ rfl; (with_reducible repeat (first | refine blk_drewN ?_ _ | refine blk_drew ?_ | refine blk_alloc ?_ _)); exact BK563.out)) : gb564 ≠ gb563); replace BK563 := Aside0.mk (blk_below (g := gb563) (o := .cells #[.int .i64 ((rd_T68 t559 x30_3).f0), .int .i64 ((rd_T68 t559 x30_3).f1)] 68 (0, 0)) (by (with_reducible repeat (first | refine blk_drewN ?_ _ | refine blk_drew ?_ | refine blk_alloc ?_ _)); refine blk_put (cs := #[.int .i64 ((rd_T68 t559 x30_3).f0), .int .i64 0]) ?_ 1 _ rfl; (with_reducible repeat (first | refine blk_drewN ?_ _ | refine blk_drew ?_ | refine blk_alloc ?_ _)); refine blk_put (cs := #[.int .i64 0, .int .i64 0]) ?_ 0 _ rfl; (with_reducible repeat (first | refine blk_drewN ?_ _ | refine blk_drew ?_ | refine blk_alloc ?_ _)); exact BK563.out) hb); clear hb hbox hg; have hnb43 := NB564_558.out; have hnc43 := NB558_564.out; have hnb44 := NB564_563.out; have hnc44 := NB563_564.out; have hcz45_0 : w42.cell? ⟨gb564, 0, none⟩ = some (.int .i64 0) := (blk_cell BK564.out 0).trans rfl; have hcz45_1 : w42.cell? ⟨gb564, 1, none⟩ = some (.int .i64 0) := (blk_cell BK564.out 1).trans rfl; have hfz45_0 := blk_frozen BK564.out 0; have hfz45_1 := blk_frozen BK564.out 1))
           go_roundg k3
           case measure => have := HJ2.out; have := HK2.out; have := HK3.out; omega
           case rel => exact ⟨(x6_3), (wrap64 (x30_3 + 1)), zz1, H', ⟨zz59 HJ2 HK2 HK3⟩, ⟨by (with_reducible repeat (first | apply Kd.R_alloc | apply Kd.R_drewN | apply Kd.R_drew)); exact Kd.R_mono (Kd.R_far (p := ⟨gb564, 1, none⟩) (Kd.R_far (p := ⟨gb564, 0, none⟩) (Kd.R_mono HO_6.out (fun k_ hk => (⟨hk, hk.2⟩ : _ ∧ k_ ≠ gb564))) (fun _ hk => hk.2) (.int .i64 ji25)) (fun _ hk => hk.2) (.int .i64 ji26)) (fun _ hk => ⟨hk.1.1.1.1, ⟨hk.1.1.1.2.1, hk.1.1.1.2.2⟩⟩)⟩, ⟨by (with_reducible repeat (first | apply Kd.R_alloc | apply Kd.R_drewN | apply Kd.R_drew)); exact Kd.R_mono (Kd.R_far (p := ⟨gb564, 1, none⟩) (Kd.R_far (p := ⟨gb564, 0, none⟩) (Kd.R_mono HO_21.out (fun k_ hk => (⟨hk, hk.2⟩ : _ ∧ k_ ≠ gb564))) (fun _ hk => hk.2) (.int .i64 ji25)) (fun _ hk => hk.2) (.int .i64 ji26)) (fun _ hk => ⟨hk.1.1.1.1, ⟨hk.1.1.1.2.1, hk.1.1.1.2.2⟩⟩)⟩, ⟨by (with_reducible repeat (first | apply Kd.R_alloc | apply Kd.R_drewN | apply Kd.R_drew)); exact Kd.R_mono (Kd.R_far (p := ⟨gb564, 1, none⟩) (Kd.R_far (p := ⟨gb564, 0, none⟩) (Kd.R_mono HO_28.out (fun k_ hk => (⟨hk, hk.2⟩ : _ ∧ k_ ≠ gb564))) (fun _ hk => hk.2) (.int .i64 ji25)) (fun _ hk => hk.2) (.int .i64 ji26)) (fun _ hk => ⟨hk.1.1.1.1, ⟨hk.1.1.1.2.1, hk.1.1.1.2.2⟩⟩)⟩, ⟨zz39 NB558_564 BK558⟩, ⟨zz69 GE558 GE563 GE564⟩⟩
         ·have H' := Aside0.mk H
          clear H
          go_wp2
          go_roundg k3
          case measure => have := HJ2.out; have := HK2.out; have := HK3.out; omega
          case rel => exact ⟨(x6_3), (wrap64 (x23_2 + 1)), zz1, H', ⟨zz59 HJ2 HK2 HK3⟩, ⟨zz61 HO_6⟩, ⟨zz61 HO_21⟩, ⟨zz6 GE558⟩⟩
      ·replace H := Option.bind_eq_some_iff.mp H
       obtain ⟨t550, A460, H⟩ := H
       replace H : ((impl_limited.f t550).bind fun bt553 => (some (bt553.1, bt553.2))) = some (r1, r2) := H
       have A46 := Aside0.mk A460
       clear A460
       replace H := bd H
       obtain ⟨⟨t553, t556⟩, A47, H⟩ := H
       replace H : (some (t553, t556)) = some (r1, r2) := H
       simp only [Option.some.injEq, Prod.mk.injEq] at H
       obtain ⟨rfl, rfl⟩ := H
       obtain ⟨Ao48, co48, eo48⟩ := Kd.R_slice HO_6.out
       subst eo48
       go_wp2_with (first | (refine gc (some 57) Try.func52 #[.slice Ao48 x6_2.length co48] ?_; (with_reducible refine (impl_set.calls k2 _ _ x6_2 t550 _ ?side1 ?side2 A46.out).mono ?_); (case side1 => exact zz20 HO_6); (case side2 => exact zz23 HO_6); rintro e w49 ⟨v551, rfl, ho0, hb⟩; refine ⟨_, rfl, ?_⟩; replace HO_6 := Aside0.mk (Kd.R_below (zz12 HO_6) hb); replace HO_21 := Aside0.mk (Kd.R_below (zz12 HO_21) hb); have HO552 := Aside0.mk (Kd.R_lower ho0 (below_size zz5)); replace HB := Aside0.mk (below_step zz5 hb); clear hb ho0; obtain ⟨Ao50, co50, eo50⟩ := Kd.R_slice HO552.out; subst eo50) | (refine gc (some 58) Try.func64 #[.slice Ao50 t550.length co50] ?_; (with_reducible refine (impl_limited.calls (fun k_ => some k_ = (.slice Ao50 t550.length co50 : Value).ownBlock) (.slice Ao50 t550.length co50) t550 t553 t556 w _ ?side1 ?side2 A47.out).mono ?_); (case side1 => exact zz5); (case side2 => exact Kd.R_tight rfl HO552.out); rintro e w51 ⟨v554, rfl, ho0, hb, hkp⟩; refine ⟨_, rfl, ?_⟩; replace HO_6 := Aside0.mk (Kd.R_mono (ok' := fun k_ => some k_ ≠ (.slice Ao13 t547.length co13 : Value).ownBlock) (Kd.R_keptB ((Kd.R_apart' HO_6.out (Kd.R_typed HO552.out) (by decide))) hkp (fun k_ hk_ hs_ => (hk_.2) hs_)) (fun k_ hk_ => hk_.1.1)); replace HO_21 := Aside0.mk (Kd.R_mono (ok' := fun k_ => some k_ ≠ (.slice Ao48 x6_2.length co48 : Value).ownBlock) (Kd.R_keptB ((Kd.R_apart' HO_21.out (Kd.R_typed HO552.out) (by decide))) hkp (fun k_ hk_ hs_ => (hk_.2) hs_)) (fun k_ hk_ => hk_.1.1)); have HO555 := Aside0.mk (Kd.R_mono (ok' := fun k_ => True) ho0 (fun k_ hk_ => trivial)); replace HB := Aside0.mk hb; clear HO552 hb hkp ho0))
       go_ret2
       exact ⟨_, zz8, zz12 HO555, zz5⟩
end Go.Proofs.Ythkjkmgbdahggaa.PL
