/- A text printed by this session's wip/myprint.py over the kit's print: contracts of functions of the given program, each at what its Lean function says. -/
import Derived.Test.YthkjkmgbdahggaaGreatPYx0
import Derived.Test.YthkjkmgbdahggaaGreatPYx7
import Derived.Test.YthkjkmgbdahggaaGreatPYx9
import Derived.Test.YthkjkmgbdahggaaGreatPYx10
import Derived.Test.YthkjkmgbdahggaaGreatPYx13
import Derived.Test.YthkjkmgbdahggaaGreatPYx17
namespace Go.Proofs.YthkjkmgbdahggaaGreat.PY
open Go.RowKit Go.Proofs.YthkjkmgbdahggaaGreatW.PrintWords Go.Proofs.YthkjkmgbdahggaaGreatW.PrintLast Go.Proofs.YthkjkmgbdahggaaGreatW.PrintMore Go.Proofs.YthkjkmgbdahggaaGreat.Sq
attribute [local go_sem] max2_int min2_int max_two min_two max_three min_three max_four min_four   -- for this text's walks alone
set_option linter.unusedVariables false
set_option linter.unusedSimpArgs false
def impl_spans.l0 : Nat → List (S50) → List (S32) → Int → Int → Option ((List (S50)))
 | 0, _, _, _, _ => none
 | k + 1, x3, x6, x7, x8 => if x8 < x7 then (if 0 ≤ x8 then (if x8 < (x6.length : Int) then ((impl_Block_last.f ((rd_T32 x6 x8).f0) ((rd_T32 x6 x8).f1)).bind fun t588 => (if x3.length < 8796093022208 then (impl_spans.l0 k (x3 ++ [(⟨(rd_T32 x6 x8).f0, t588⟩ : S50)]) x6 x7 (wrap64 (x8 + 1))) else (none))) else (none)) else (none)) else (some x3)
def impl_spans.f (k : Nat) (l0 : List (S32)) : Option ((List (S50))) := impl_spans.l0 k ([] : List (S50)) l0 (l0.length : Int) 0
def impl_spans.T5 : Bool × List (List Nat × List Nat) := (true, [([], []), ([], []), ([1], [1]), ([], []), ([3], [3]), ([2, 4], [2, 4]), ([5], [5]), ([0, 6, 4], [0, 6]), ([7, 7, 0, 1, 2, 3, 4, 5, 6, 7], [0, 7])])
def impl_spans.B5 : List Nat := [0, 0, 2, 0, 8, 30, 62, 127, 255]
theorem impl_spans.tab5 : rtab .any (opsOf Tryz.f33 5) = impl_spans.T5 := by kernel_rfl
theorem impl_spans.bits5 : waitsOk impl_spans.T5.2 impl_spans.B5 = true := by kernel_rfl
set_option maxHeartbeats 8000000 in
set_option maxRecDepth 100000 in
theorem impl_spans.calls (k : Nat) (A0 : Option Addr) (c0 : Nat) (l0 : List (S32)) (r : List (S50)) (w : World) (hr0 : Kd.C k32 w A0 l0.length l0) (hc0 : l0.length ≤ c0) (h : impl_spans.f k l0 = some r) :
  Calls Tryz.prog 33 #[.slice A0 l0.length c0] w fun e w' => ∃ v0_ : Value, e = .returned (v0_) ∧ Kd.R k50 50 w' w.heap.size (fun _ => True) v0_ r ∧ Below w.heap.size w w' := by
 have hu32 := Tryz.underlying32
 have hu50 := Tryz.underlying50
 have HR0 := Aside0.mk hr0
 have HC0 := Aside0.mk hc0
 clear hr0 hc0
 have HB := Aside0.mk (Below.refl w.heap.size w)
 have H : (impl_spans.l0 k ([] : List (S50)) l0 (l0.length : Int) 0) = some r := h
 clear h
 have H' := Aside0.mk H
 clear H
 go_enter Tryz.func33, Tryz.ntmps33
 go_wp2
 go_loopg [3, 8] k (fun kq v3 v8 w' => ∃ (x3_1 : List (S50)) (x8_1 : Int), v8 = .int .i64 x8_1 ∧ Aside0 (impl_spans.l0 kq x3_1 l0 (l0.length : Int) x8_1 = some r) ∧ Aside0 (kq ≤ k) ∧ Aside0 (Kd.R k50 50 w' w.heap.size (fun _ => True) v3 x3_1) ∧ Aside0 (Below w.heap.size w w'))
 case atStart => exact ⟨(([] : List (S50))), (0), zz8, H', ⟨Nat.le_refl _⟩, ⟨zz46⟩, ⟨zz3⟩⟩
 case round =>
  clear H'
  obtain ⟨x3_1, x8_1, rfl, HA, HK1, HO_3, HB⟩ := hrel
  cases gk with
  | zero => exact absurd HA.out (by simp [impl_spans.l0])
  | succ k1 =>
   have H := HA.out
   clear HA
   simp only [impl_spans.l0] at H
   replace H := ic H
   rcases H with ⟨c2b0, H⟩ | ⟨c2b0, H⟩
   ·replace H := gd H
    obtain ⟨c3b0, H⟩ := H
    replace H := gd H
    obtain ⟨c4b0, H⟩ := H
    replace H := bd H
    obtain ⟨t588, A5, H⟩ := H
    replace H : (if x3_1.length < 8796093022208 then (impl_spans.l0 k1 (x3_1 ++ [(⟨(rd_T32 l0 x8_1).f0, t588⟩ : S50)]) l0 (l0.length : Int) (wrap64 (x8_1 + 1))) else (none)) = some r := H
    replace H := gp H
    obtain ⟨c6, H⟩ := H
    have LMc6 := Aside0.mk c6
    clear c6
    obtain ⟨y589, hy589⟩ : ∃ y_ : List (S50), y_ = (x3_1 ++ [(⟨(rd_T32 l0 x8_1).f0, t588⟩ : S50)]) := ⟨_, rfl⟩
    replace H : (impl_spans.l0 k1 y589 l0 (l0.length : Int) (wrap64 (x8_1 + 1))) = some r := by first | (rw [hy589]; with_reducible exact H) | (have H2_ := (Option.bind_some _ _).symm.trans H; rw [hy589]; with_reducible exact H2_) | (have H2_ := (Option.bind_some _ _).symm.trans H; with_reducible exact H2_) | with_reducible exact H | (rw [hy589]; exact H) | exact H
    have Ny589 := Aside0.mk hy589
    clear hy589
    have H' := Aside0.mk H
    clear H
    obtain ⟨⟨ad586, e586, hx586_0, hx586_1⟩, p586, q586⟩ := wi (at_T32 HR0.out x8_1)
    cases e586
    replace hx586_0 := (HB.out.cell (World.block_lt_of_cell? w _ hx586_0)).trans hx586_0
    replace hx586_1 := (HB.out.cell (World.block_lt_of_cell? w _ hx586_1)).trans hx586_1
    try go_wp2_with (first | (refine be 5 #[.int .i64 0, .int .i64 0] 32 ?_; intro gb587 hg w7 hbox hb; replace HO_3 := Aside0.mk (Kd.R_below (zz22 HO_3) hb); have BK587 := Aside0.mk hbox; have GW587 := Aside0.mk (zz16 : w.heap.size ≤ gb587); have GE587 := Aside0.mk (zz16 : w.heap.size ≤ gb587); replace HB := Aside0.mk (below_step zz3 hb); clear hb hbox hg; have hcz8_0 : w7.cell? ⟨gb587, 0, none⟩ = some (.int .i64 0) := (blk_cell BK587.out 0).trans rfl; have hcz8_1 : w7.cell? ⟨gb587, 1, none⟩ = some (.int .i64 0) := (blk_cell BK587.out 1).trans rfl; have hfz8_0 := blk_frozen BK587.out 0; have hfz8_1 := blk_frozen BK587.out 1))
    have n0_ : Aside0 (Kd.R k50 50 ((w7.setCell ⟨gb587, 0, none⟩ (.int .i64 ((rd_T32 l0 x8_1).f0))).setCell ⟨gb587, 1, none⟩ (.int .i64 ((rd_T32 l0 x8_1).f1))) w.heap.size (fun _ => True) u3 x3_1) := ⟨by (with_reducible repeat (first | apply Kd.R_alloc | apply Kd.R_drewN | apply Kd.R_drew)); exact Kd.R_mono (Kd.R_far (p := ⟨gb587, 1, none⟩) (Kd.R_far (p := ⟨gb587, 0, none⟩) (Kd.R_types HO_3.out BK587.out (by decide)) (fun _ hk => hk.2) (.int .i64 ((rd_T32 l0 x8_1).f0))) (fun _ hk => hk.2) (.int .i64 ((rd_T32 l0 x8_1).f1))) (fun _ hk => trivial)⟩
    have n1_ : Aside0 (((w7.setCell ⟨gb587, 0, none⟩ (.int .i64 ((rd_T32 l0 x8_1).f0))).setCell ⟨gb587, 1, none⟩ (.int .i64 ((rd_T32 l0 x8_1).f1))).heap[gb587]? = some (.cells #[.int .i64 ((rd_T32 l0 x8_1).f0), .int .i64 ((rd_T32 l0 x8_1).f1)] 32 (0, 0))) := ⟨by (with_reducible repeat (first | refine blk_drewN ?_ _ | refine blk_drew ?_ | refine blk_alloc ?_ _)); refine blk_put (cs := #[.int .i64 ((rd_T32 l0 x8_1).f0), .int .i64 0]) ?_ 1 _ rfl; (with_reducible repeat (first | refine blk_drewN ?_ _ | refine blk_drew ?_ | refine blk_alloc ?_ _)); refine blk_put (cs := #[.int .i64 0, .int .i64 0]) ?_ 0 _ rfl; (with_reducible repeat (first | refine blk_drewN ?_ _ | refine blk_drew ?_ | refine blk_alloc ?_ _)); exact BK587.out⟩
    have n2_ : Aside0 (Below w.heap.size w ((w7.setCell ⟨gb587, 0, none⟩ (.int .i64 ((rd_T32 l0 x8_1).f0))).setCell ⟨gb587, 1, none⟩ (.int .i64 ((rd_T32 l0 x8_1).f1)))) := ⟨zz6 GE587⟩
    (try clear HO_3)
    (try clear BK587)
    (try clear HB)
    generalize ((w7.setCell ⟨gb587, 0, none⟩ (.int .i64 ((rd_T32 l0 x8_1).f0))).setCell ⟨gb587, 1, none⟩ (.int .i64 ((rd_T32 l0 x8_1).f1))) = w9 at n0_ n1_ n2_ ⊢
    have HO_3 := n0_
    have BK587 := n1_
    have HB := n2_
    clear n0_ n1_ n2_
    replace HO_3 := Aside0.mk (Kd.R_drew HO_3.out)
    replace BK587 := Aside0.mk (blk_drew BK587.out)
    replace HB := Aside0.mk (below_drew1 HB.out)
    refine start_ (n := 9) (S := fun w' => w'.cell? ⟨gb587, 0, none⟩ = some (.int .i64 ((rd_T32 l0 x8_1).f0)) ∧ w'.cell? ⟨gb587, 1, none⟩ = some (.int .i64 ((rd_T32 l0 x8_1).f1))) (ds := []) (bm 9 0) (by kernel_rfl) rfl rfl ⟨(blk_cell BK587.out 0).trans rfl, (blk_cell BK587.out 1).trans rfl⟩ (fun hHeld => ?_); refine with_tabW impl_spans.tab5 impl_spans.bits5 (fun HT_ HW_ => ?_)
    generalize w9.drew = w10 at HO_3 BK587 HB hHeld ⊢
    refine pu 0 12 (bm 9 1) ?_
    refine pu 1 13 (bm 9 3) ?_
    refine tk 2 14 (bm 9 7) ?_
    refine tk 3 15 (bm 9 15) ?_
    refine on 4 (some 16) (bm 9 31) (fun K hK => ?_)
    refine gs Tryz.func42 #[.agg #[.int .i64 ((rd_T32 l0 x8_1).f0), .int .i64 ((rd_T32 l0 x8_1).f1)]] ?_
    with_reducible refine (impl_Block_last.calls ((rd_T32 l0 x8_1).f0) ((rd_T32 l0 x8_1).f1) t588 _ A5.out).mono ?_
    rintro e w11 ⟨rfl, hb⟩
    refine ⟨_, rfl, ?_⟩
    replace HO_3 := Aside0.mk (Kd.R_below (zz22 HO_3) hb)
    replace BK587 := Aside0.mk (blk_below (g := gb587) (o := .cells #[.int .i64 ((rd_T32 l0 x8_1).f0), .int .i64 ((rd_T32 l0 x8_1).f1)] 32 (0, 0)) (zz5 BK587) hb)
    replace HB := Aside0.mk (below_step (zz6 GE587) hb)
    (try clear hb)
    (try clear hb2)
    (try clear hk)
    (try clear hi)
    refine hK.out _ _ ⟨(blk_cell BK587.out 0).trans rfl, (blk_cell BK587.out 1).trans rfl⟩ (fun hHeld => ?_)
    clear hK K
    refine nm 16 ?_
    refine pu 5 17 (bm 9 63) ?_
    refine on 6 (some 18) (bm 9 127) (fun K hK => ?_)
    refine value_ (w1 := ?_) (v := ?_) (by rfl) rfl ?_ ?_
    rotate_left 2
    ·go_simp
     constructor
     ·rfl
     ·rfl
    refine hK.out _ _ ⟨(blk_cell (blk_alloc BK587.out _) 0).trans rfl, (blk_cell (blk_alloc BK587.out _) 1).trans rfl⟩ (fun hHeld => ?_)
    clear hK K
    refine nm 18 ?_
    refine on 7 (some 19) (bm 9 255) (fun K hK => ?_)
    refine Kd.R_append_step k50 (w0 := w) w.heap.size (by rfl) (.tmp 12) (.tmp 18) 46 50 (.agg #[(.int .i64 0), (.int .i64 0)]) 16 rfl Tryz.underlying46 info50 rfl (by decide) (by omega) u3 x3_1 (⟨(rd_T32 l0 x8_1).f0, t588⟩ : S50) [.int .i64 ((rd_T32 l0 x8_1).f0), .int .i64 t588] (fun _ => True) (fun _ => False) rfl rfl ?aP (fun _ hk => hk.elim) ?aF ?aO ?aB ?aS ?aL ?_
    (case aP => exact k50_mkM _ _ _ (⟨(rd_T32 l0 x8_1).f0, t588⟩ : S50))
    (case aB => exact zz6 GE587)
    (case aF => exact zz21)
    (case aO => exact zz22 HO_3)
    (case aS => exact zz27 GE587)
    (case aL => exact zz15 LMc6)
    intro v590 w12 ho hb hg hat
    rw [← Ny589.out] at ho
    replace BK587 := Aside0.mk (blk_grown (g := gb587) (o := .cells #[.int .i64 ((rd_T32 l0 x8_1).f0), .int .i64 ((rd_T32 l0 x8_1).f1)] 32 (0, 0)) (zz5 BK587) hg (Kd.R_ne HO_3.out BK587.out (by decide)))
    replace HB := Aside0.mk hb
    have HO591 := Aside0.mk ho
    clear HO_3 ho hb hg hat
    refine hK.out _ _ ⟨(blk_cell BK587.out 0).trans rfl, (blk_cell BK587.out 1).trans rfl⟩ (fun hHeld => ?_)
    clear hK K
    refine nm 19 ?_
    refine pu 8 3 (bm 9 511) ?_
    refine done_ (done_of HT_.out (by kernel_rfl)) ?_
    try go_wp2
    go_roundg k1
    case measure => have := HK1.out; omega
    case rel => exact ⟨(y589), (wrap64 (x8_1 + 1)), zz8, H', ⟨zz15 HK1⟩, ⟨zz22 HO591⟩, ⟨zz6 GE587⟩⟩
   ·obtain rfl := Option.some.inj H
    go_wp2
    go_ret
    exact ⟨_, zz13, zz22 HO_3, zz3⟩
def impl_SetOk.f (k : Nat) (l0 : List (S32)) : Option (Bool) := (impl_blocksOk.f k l0).bind fun t592 => (if t592 = true then ((impl_spans.f k l0).bind fun t593 => ((impl_set.f k t593).bind fun t596 => ((impl_Block_32.f k t596 l0).bind fun t599 => (some t599)))) else (some false))
set_option maxHeartbeats 8000000 in
set_option maxRecDepth 100000 in
theorem impl_SetOk.calls (k : Nat) (A0 : Option Addr) (c0 : Nat) (l0 : List (S32)) (r : Bool) (w : World) (hr0 : Kd.C k32 w A0 l0.length l0) (hc0 : l0.length ≤ c0) (h : impl_SetOk.f k l0 = some r) :
  Calls Tryz.prog 10 #[.slice A0 l0.length c0] w fun e w' => e = .returned (.bool r) ∧ Below w.heap.size w w' := by
 have HR0 := Aside0.mk hr0
 have HC0 := Aside0.mk hc0
 clear hr0 hc0
 have HB := Aside0.mk (Below.refl w.heap.size w)
 have H : ((impl_blocksOk.f k l0).bind fun t592 => (if t592 = true then ((impl_spans.f k l0).bind fun t593 => ((impl_set.f k t593).bind fun t596 => ((impl_Block_32.f k t596 l0).bind fun t599 => (some t599)))) else (some false))) = some r := h
 clear h
 replace H := bd H
 obtain ⟨t592, A2, H⟩ := H
 replace H : (if t592 = true then ((impl_spans.f k l0).bind fun t593 => ((impl_set.f k t593).bind fun t596 => ((impl_Block_32.f k t596 l0).bind fun t599 => (some t599)))) else (some false)) = some r := H
 by_cases c3 : t592 = true
 ·subst c3
  have H1 : ((impl_spans.f k l0).bind fun t593 => ((impl_set.f k t593).bind fun t596 => ((impl_Block_32.f k t596 l0).bind fun t599 => (some t599)))) = some r := by rw [if_pos rfl] at H; exact H
  clear H
  have H := H1
  clear H1
  replace H := bd H
  obtain ⟨t593, A4, H⟩ := H
  replace H : ((impl_set.f k t593).bind fun t596 => ((impl_Block_32.f k t596 l0).bind fun t599 => (some t599))) = some r := H
  replace H := bd H
  obtain ⟨t596, A5, H⟩ := H
  replace H : ((impl_Block_32.f k t596 l0).bind fun t599 => (some t599)) = some r := H
  replace H := bd H
  obtain ⟨t599, A6, H⟩ := H
  replace H : (some t599) = some r := H
  obtain rfl := Option.some.inj H
  go_enter Tryz.func10, Tryz.ntmps10
  go_wp2_with (first | (refine gc (some 4) Tryz.func31 #[.slice A0 l0.length c0] ?_; (with_reducible refine (impl_blocksOk.calls k _ _ l0 true _ ?side1 ?side2 A2.out).mono ?_); (case side1 => exact zz49 HR0); (case side2 => exact HC0.out); rintro e w7 ⟨rfl, hb⟩; refine ⟨_, rfl, ?_⟩; replace HB := Aside0.mk (below_step zz3 hb); clear hb) | (go_at_call 33; (with_reducible refine (impl_spans.calls k _ _ l0 t593 _ ?side1 ?side2 A4.out).mono ?_); (case side1 => exact zz20 HR0); (case side2 => exact HC0.out); rintro e w8 ⟨v594, rfl, ho0, hb⟩; have HO595 := Aside0.mk (Kd.R_lower ho0 (below_size zz3)); replace HB := Aside0.mk (below_step zz3 hb); clear hb ho0; obtain ⟨Ao9, co9, eo9⟩ := Kd.R_slice HO595.out; subst eo9) | (go_at_call 22; (with_reducible refine (impl_set.calls k _ _ t593 t596 _ ?side1 ?side2 A5.out).mono ?_); (case side1 => exact zz31 HO595); (case side2 => exact zz33 HO595); rintro e w10 ⟨v597, rfl, ho0, hb⟩; replace HO595 := Aside0.mk (Kd.R_below (zz22 HO595) hb); have HO598 := Aside0.mk (Kd.R_lower ho0 (below_size zz3)); replace HB := Aside0.mk (below_step zz3 hb); clear hb ho0; obtain ⟨Ao11, co11, eo11⟩ := Kd.R_slice HO598.out; subst eo11) | (go_at_call 32; (with_reducible refine (impl_Block_32.calls k _ _ t596 _ _ l0 t599 _ ?side1 ?side2 ?side3 ?side4 A6.out).mono ?_); (case side1 => exact zz31 HO598); (case side2 => exact zz33 HO598); (case side3 => exact zz20 HR0); (case side4 => exact HC0.out); rintro e w' ⟨rfl, ⟨nd, rfl⟩⟩))
  go_ret
  exact ⟨zz13, zz3⟩
 ·replace c3 := Bool.eq_false_iff.mpr c3
  subst c3
  have H1 : (some false) = some r := by rw [if_neg (show ¬ (false = true) by decide)] at H; exact H
  clear H
  have H := H1
  clear H1
  obtain rfl := Option.some.inj H
  go_enter Tryz.func10, Tryz.ntmps10
  go_wp2_with (first | (refine gc (some 4) Tryz.func31 #[.slice A0 l0.length c0] ?_; (with_reducible refine (impl_blocksOk.calls k _ _ l0 false _ ?side1 ?side2 A2.out).mono ?_); (case side1 => exact zz49 HR0); (case side2 => exact HC0.out); rintro e w12 ⟨rfl, hb⟩; refine ⟨_, rfl, ?_⟩; replace HB := Aside0.mk (below_step zz3 hb); clear hb))
  go_ret
  exact ⟨zz13, zz3⟩
def impl_SetSize.l0 : Nat → Int → List (S32) → Int → Int → Option (Int)
 | 0, _, _, _, _ => none
 | k + 1, x3, x9, x10, x11 => if x11 < x10 then (if 0 ≤ x11 then (if x11 < (x9.length : Int) then ((impl_Block_size.f ((rd_T32 x9 x11).f0) ((rd_T32 x9 x11).f1)).bind fun t603 => (impl_SetSize.l0 k (wrap64 (x3 + t603)) x9 x10 (wrap64 (x11 + 1)))) else (none)) else (none)) else (some x3)
def impl_SetSize.f (k : Nat) (l0 : List (S32)) : Option (Int) := (impl_SetOk.f k l0).bind fun t600 => (if t600 = true then (impl_SetSize.l0 k 0 l0 (l0.length : Int) 0) else (some 0))
set_option maxHeartbeats 8000000 in
set_option maxRecDepth 100000 in
theorem impl_SetSize.calls (k : Nat) (A0 : Option Addr) (c0 : Nat) (l0 : List (S32)) (r : Int) (w : World) (hr0 : Kd.C k32 w A0 l0.length l0) (hc0 : l0.length ≤ c0) (h : impl_SetSize.f k l0 = some r) :
  Calls Tryz.prog 9 #[.slice A0 l0.length c0] w fun e w' => e = .returned (.int .i64 r) ∧ Below w.heap.size w w' := by
 have hu32 := Tryz.underlying32
 have HR0 := Aside0.mk hr0
 have HC0 := Aside0.mk hc0
 clear hr0 hc0
 have HB := Aside0.mk (Below.refl w.heap.size w)
 have H : ((impl_SetOk.f k l0).bind fun t600 => (if t600 = true then (impl_SetSize.l0 k 0 l0 (l0.length : Int) 0) else (some 0))) = some r := h
 clear h
 replace H := bd H
 obtain ⟨t600, A2, H⟩ := H
 replace H : (if t600 = true then (impl_SetSize.l0 k 0 l0 (l0.length : Int) 0) else (some 0)) = some r := H
 by_cases c3 : t600 = true
 ·subst c3
  have H1 : (impl_SetSize.l0 k 0 l0 (l0.length : Int) 0) = some r := by rw [if_pos rfl] at H; exact H
  clear H
  have H := H1
  clear H1
  have H' := Aside0.mk H
  clear H
  go_enter Tryz.func9, Tryz.ntmps9
  go_wp2_with (first | (refine gc (some 7) Tryz.func10 #[.slice A0 l0.length c0] ?_; (with_reducible refine (impl_SetOk.calls k _ _ l0 true _ ?side1 ?side2 A2.out).mono ?_); (case side1 => exact zz49 HR0); (case side2 => exact HC0.out); rintro e w4 ⟨rfl, hb⟩; refine ⟨_, rfl, ?_⟩; replace HB := Aside0.mk (below_step zz3 hb); clear hb))
  go_loopg [3, 11] k (fun kq v3 v11 w' => ∃ (x3_1 : Int) (x11_1 : Int), v3 = .int .i64 x3_1 ∧ v11 = .int .i64 x11_1 ∧ Aside0 (impl_SetSize.l0 kq x3_1 l0 (l0.length : Int) x11_1 = some r) ∧ Aside0 (kq ≤ k) ∧ Aside0 (Below w.heap.size w w'))
  case atStart => exact ⟨(0), (0), zz8, zz8, H', ⟨Nat.le_refl _⟩, ⟨zz3⟩⟩
  case round =>
   clear H'
   try clear c1
   try clear p2
   try clear c3
   obtain ⟨x3_1, x11_1, rfl, rfl, HA, HK1, HB⟩ := hrel
   cases gk with
   | zero => exact absurd HA.out (by simp [impl_SetSize.l0])
   | succ k1 =>
    have H := HA.out
    clear HA
    simp only [impl_SetSize.l0] at H
    replace H := ic H
    rcases H with ⟨c5b0, H⟩ | ⟨c5b0, H⟩
    ·replace H := gd H
     obtain ⟨c6b0, H⟩ := H
     replace H := gd H
     obtain ⟨c7b0, H⟩ := H
     replace H := bd H
     obtain ⟨t603, A8, H⟩ := H
     replace H : (impl_SetSize.l0 k1 (wrap64 (x3_1 + t603)) l0 (l0.length : Int) (wrap64 (x11_1 + 1))) = some r := H
     have H' := Aside0.mk H
     clear H
     obtain ⟨⟨ad601, e601, hx601_0, hx601_1⟩, p601, q601⟩ := wi (at_T32 HR0.out x11_1)
     cases e601
     replace hx601_0 := (HB.out.cell (World.block_lt_of_cell? w _ hx601_0)).trans hx601_0
     replace hx601_1 := (HB.out.cell (World.block_lt_of_cell? w _ hx601_1)).trans hx601_1
     go_wp2_with (first | (refine be 5 #[.int .i64 0, .int .i64 0] 32 ?_; intro gb602 hg w9 hbox hb; have BK602 := Aside0.mk hbox; have GW602 := Aside0.mk (zz16 : w.heap.size ≤ gb602); have GE602 := Aside0.mk (zz16 : w.heap.size ≤ gb602); replace HB := Aside0.mk (below_step zz3 hb); clear hb hbox hg; have hcz10_0 : w9.cell? ⟨gb602, 0, none⟩ = some (.int .i64 0) := (blk_cell BK602.out 0).trans rfl; have hcz10_1 : w9.cell? ⟨gb602, 1, none⟩ = some (.int .i64 0) := (blk_cell BK602.out 1).trans rfl; have hfz10_0 := blk_frozen BK602.out 0; have hfz10_1 := blk_frozen BK602.out 1) | (refine gc (some 17) Tryz.func30 #[.agg #[.int .i64 ((rd_T32 l0 x11_1).f0), .int .i64 ((rd_T32 l0 x11_1).f1)]] ?_; (with_reducible refine (impl_Block_size.calls ((rd_T32 l0 x11_1).f0) ((rd_T32 l0 x11_1).f1) t603 _ A8.out).mono ?_); rintro e w11 ⟨rfl, hb⟩; refine ⟨_, rfl, ?_⟩; replace BK602 := Aside0.mk (blk_below (g := gb602) (o := .cells #[.int .i64 ((rd_T32 l0 x11_1).f0), .int .i64 ((rd_T32 l0 x11_1).f1)] 32 (0, 0)) (by (with_reducible repeat (first | refine blk_drewN ?_ _ | refine blk_drew ?_ | refine blk_alloc ?_ _)); refine blk_put (cs := #[.int .i64 ((rd_T32 l0 x11_1).f0), .int .i64 0]) ?_ 1 _ rfl; (with_reducible repeat (first | refine blk_drewN ?_ _ | refine blk_drew ?_ | refine blk_alloc ?_ _)); refine blk_put (cs := #[.int .i64 0, .int .i64 0]) ?_ 0 _ rfl; (with_reducible repeat (first | refine blk_drewN ?_ _ | refine blk_drew ?_ | refine blk_alloc ?_ _)); exact BK602.out) hb); replace HB := Aside0.mk (below_step (zz6 GE602) hb); clear hb))
     go_roundg k1
     case measure => have := HK1.out; omega
     case rel => exact ⟨(wrap64 (x3_1 + t603)), (wrap64 (x11_1 + 1)), zz8, zz8, H', ⟨zz15 HK1⟩, ⟨zz6 GE602⟩⟩
    ·obtain rfl := Option.some.inj H
     go_wp2
     go_ret
     exact ⟨zz13, zz3⟩
 ·replace c3 := Bool.eq_false_iff.mpr c3
  subst c3
  have H1 : (some 0) = some r := by rw [if_neg (show ¬ (false = true) by decide)] at H; exact H
  clear H
  have H := H1
  clear H1
  obtain rfl := Option.some.inj H
  go_enter Tryz.func9, Tryz.ntmps9
  go_wp2_with (first | (refine gc (some 7) Tryz.func10 #[.slice A0 l0.length c0] ?_; (with_reducible refine (impl_SetOk.calls k _ _ l0 false _ ?side1 ?side2 A2.out).mono ?_); (case side1 => exact zz49 HR0); (case side2 => exact HC0.out); rintro e w12 ⟨rfl, hb⟩; refine ⟨_, rfl, ?_⟩; replace HB := Aside0.mk (below_step zz3 hb); clear hb))
  go_ret
  exact ⟨zz13, zz3⟩
def impl_SetHas.f (k : Nat) (l0 : List S32) (a1 : Int) : Option (Bool) := (impl_SetOk.f k l0).bind fun t => if t = true then (if l0.all (fun b => (impl_Block_has.f b.f0 b.f1 a1).isSome) = true then some (l0.any fun b => (impl_Block_has.f b.f0 b.f1 a1) == some true) else none) else some false
def impl_SetHas.enc (x : S32) : List Value := [.int .i64 x.f0, .int .i64 x.f1]
set_option maxHeartbeats 1000000 in
theorem impl_SetHas.pred (a : Int) (B : Nat) (w : World) (hB : B < w.heap.size) (hcell : w.cell? ⟨B, 0, none⟩ = some (.int .i64 a)) :
  PredBelow Tryz.prog 35 #[.pointer (some ⟨B, 0, none⟩)] (fun x : { x : S32 // (impl_Block_has.f x.f0 x.f1 a).isSome = true } => .agg (impl_SetHas.enc x.1).toArray) (fun x => (impl_Block_has.f x.1.f0 x.1.f1 a) == some true) w := fun W x hb => by
 obtain ⟨x, hx⟩ := x
 obtain ⟨t, ht⟩ := Option.isSome_iff_exists.1 hx
 have hc : W.cell? ⟨B, 0, none⟩ = some (.int .i64 a) := (hb.cell (p := ⟨B, 0, none⟩) hB).trans hcell
 have hBW : B < W.heap.size := Nat.lt_of_lt_of_le hB hb.size
 have hu := Tryz.underlying32
 have hcon := fun W' => impl_Block_has.calls x.f0 x.f1 a t W' ht
 show Calls Tryz.prog 35 #[.agg #[.int .i64 x.f0, .int .i64 x.f1], .pointer (some ⟨B, 0, none⟩)] W _
 have hne : B ≠ W.heap.size := by omega
 simp only [ht]
 clear ht hx
 go_enter Tryz.func35, Tryz.ntmps35
 go_wp2_with (go_at_call 36; refine (hcon _).mono ?_; rintro e w' ⟨rfl, hb2⟩)
 go_ret
 exact ⟨by cases t <;> rfl, (hb.alloc hb.size _).trans (hb2.mono (by have := hb.size; simp; omega))⟩
theorem impl_SetHas.idx0 (A : Option Addr) (c : Nat) (fv : Value) (w : World) : Calls Tryz.prog 55 #[.slice A 0 c, fv] w fun e w' => e = .returned (.int .i64 (-1)) ∧ w' = w := by
 go_enter Tryz.func55, Tryz.ntmps55
 go_wp2
 go_loop [8] (fun i => i = .int .i64 0) (fun _ => 0)
 case atStart => rfl
 case round =>
  obtain rfl := hrel
  go_wp2
  go_ret
  exact ⟨rfl, rfl⟩
theorem impl_SetHas.has0 (A : Option Addr) (c : Nat) (fv : Value) (w : World) : Calls Tryz.prog 34 #[.slice A 0 c, fv] w fun e w' => e = .returned (.bool false) ∧ w' = w := by
 go_enter Tryz.func34, Tryz.ntmps34
 go_wp2_with (go_at_call 55; refine (impl_SetHas.idx0 _ _ _ _).mono ?_; rintro e w' ⟨rfl, rfl⟩)
 go_ret
 exact ⟨rfl, rfl⟩
instance impl_SetHas.inh (a : Int) : Inhabited { x : S32 // (impl_Block_has.f x.f0 x.f1 a).isSome = true } := ⟨⟨⟨0, 32⟩, by
 have e : wrap64 (32 - 32) = 0 := by unfold wrap64; omega
 simp only [impl_Block_has.f, impl_Block_last.f, impl_Block_size.f, impl_in.f, e, Int.le_refl, if_true, Option.bind_some]
 split <;> rfl⟩⟩
set_option maxHeartbeats 1000000 in
theorem impl_SetHas.hasAny (a : Int) (l0 : List S32) (A0 : Option Addr) (c0 B : Nat) (w : World) (hr0 : Kd.C k32 w A0 l0.length l0) (hB : B < w.heap.size) (hcell : w.cell? ⟨B, 0, none⟩ = some (.int .i64 a)) (hall : l0.all (fun b => (impl_Block_has.f b.f0 b.f1 a).isSome) = true) :
  Calls Tryz.prog 34 #[.slice A0 l0.length c0, .func (.func 35) #[] #[.pointer (some ⟨B, 0, none⟩)]] w fun e w' => e = .returned (.bool (l0.any fun b => (impl_Block_has.f b.f0 b.f1 a) == some true)) ∧ Below w.heap.size w w' := by
 by_cases h0 : l0 = []
 ·subst h0
  refine (impl_SetHas.has0 A0 c0 _ w).mono ?_
  rintro e w' ⟨rfl, rfl⟩
  exact ⟨rfl, Below.refl _ _⟩
 ·have hp : 0 < l0.length := List.length_pos_iff.2 h0
  obtain ⟨ad, rfl, hc, _⟩ := at_T32 hr0 0 (by omega) (by omega)
  have hbl := World.block_lt_of_cell? _ _ hc
  obtain ⟨b, o, sp⟩ := ad
  have hsp : sp = none := by
   cases sp with
   | none => rfl
   | some x =>
    rw [show ((⟨b, o, some x⟩ : Addr).add ((0 : Int).toNat * 2)) = ⟨b, o, some x⟩ from rfl] at hc
    unfold World.cell? at hc
    split at hc <;> simp at hc
  subst hsp
  have hmem : ∀ x ∈ l0, (impl_Block_has.f x.f0 x.f1 a).isSome = true := fun x hx => List.all_eq_true.1 hall x hx
  have hbig := hr0.2.1
  have eg : ∀ args w, (callFunc 35 args).run Tryz.prog w = .ok (.enter 35 args) w := enters_of Tryz.func35 (by kernel_rfl) rfl
  have hcon := AnyQ.slices_ContainsFunc Tryz.laysHas 2 Tryz.isAgg32 Tryz.sizeOf32 (fun x : { x : S32 // (impl_Block_has.f x.f0 x.f1 a).isSome = true } => impl_SetHas.enc x.1) (fun _ => rfl) (fun x => (impl_Block_has.f x.1.f0 x.1.f1 a) == some true) 35 #[.pointer (some ⟨B, 0, none⟩)] eg b o l0.length c0 (l0.pmap (fun x h => ⟨x, h⟩) hmem) w
   (impl_SetHas.pred a B w hB hcell) (by simp) hbig hbl (fun j hj i v hi => by
    simp only [List.length_pmap] at hj
    obtain ⟨ad, e, h1, h2⟩ := at_T32 hr0 (j : Int) (by omega) (by omega)
    cases e
    have ee : ((l0.pmap (fun x h => (⟨x, h⟩ : { x : S32 // (impl_Block_has.f x.f0 x.f1 a).isSome = true })) hmem)[j]!).1 = rd_T32 l0 (j : Int) := by
     rw [getElem!_pos _ j (by simpa using hj), List.getElem_pmap]; simp [rd_T32, hj]
    have ea : (⟨b, o, none⟩ : Addr).add ((j : Int).toNat * 2) = ⟨b, o + j * 2, none⟩ := by
     unfold Addr.add; split
     ·rename_i h; simp at h; simp [h]
     ·simp
    rw [ea] at h1 h2
    simp only [ee, impl_SetHas.enc] at hi
    match i, hi with
    | 0, hi => simp at hi; rw [← hi]; exact h1
    | 1, hi => simp at hi; rw [← hi]; exact h2
    | i + 2, hi => simp at hi)
  change Calls Tryz.prog 34 _ _ _ at hcon
  refine hcon.mono ?_
  rintro e w' ⟨rfl, hb⟩
  refine ⟨?_, hb⟩
  rw [List.take_of_length_le (by simp)]
  congr 2
  have h2 := List.any_map (l := l0.pmap (fun x h => (⟨x, h⟩ : { x : S32 // (impl_Block_has.f x.f0 x.f1 a).isSome = true })) hmem) (f := fun x => x.1) (p := fun b : S32 => (impl_Block_has.f b.f0 b.f1 a) == some true)
  rw [List.map_pmap] at h2
  simp only [List.pmap_eq_map, List.map_id'] at h2
  exact h2.symm
set_option maxHeartbeats 2000000 in
theorem impl_SetHas.calls (k : Nat) (A0 : Option Addr) (c0 : Nat) (l0 : List S32) (a1 : Int) (r : Bool) (w : World) (hr0 : Kd.C k32 w A0 l0.length l0) (hc0 : l0.length ≤ c0) (h : impl_SetHas.f k l0 a1 = some r) :
  Calls Tryz.prog 11 #[.slice A0 l0.length c0, .int .i64 a1] w fun e w' => e = .returned (.bool r) ∧ Below w.heap.size w w' := by
 unfold impl_SetHas.f at h
 obtain ⟨t, ht, h⟩ := Option.bind_eq_some_iff.1 h
 have hB0 : Below w.heap.size w (w.alloc (.cells #[.int .i64 a1] 3)) := (Below.refl _ w).alloc (Nat.le_refl _) _
 have hr1 : Kd.C k32 (w.alloc (.cells #[.int .i64 a1] 3)) A0 l0.length l0 := Kd.C_below hr0 hB0
 have hcon := impl_SetOk.calls k A0 c0 l0 t (w.alloc (.cells #[.int .i64 a1] 3)) hr1 hc0 ht
 have hcz : (w.alloc (.cells #[.int .i64 a1] 3)).cell? ⟨w.heap.size, 0, none⟩ = some (.int .i64 a1) := (Boxed.new w 3 (.int .i64 a1)).cell
 have hsz : (w.alloc (.cells #[.int .i64 a1] 3)).heap.size = w.heap.size + 1 := by simp
 cases t with
 | false =>
  rw [if_neg (by simp)] at h
  obtain rfl := Option.some.inj h
  have HR := Aside0.mk hr0
  have HR1 := Aside0.mk hr1
  clear hr0 hr1 ht hcz hsz
  go_enter Tryz.func11, Tryz.ntmps11
  go_wp2_with (go_at_call 10; refine hcon.mono ?_; rintro e w' ⟨rfl, hb⟩)
  go_ret
  exact ⟨rfl, hB0.trans (hb.mono (by simp))⟩
 | true =>
  rw [if_pos rfl] at h
  split at h
  ·rename_i hall
   obtain rfl := Option.some.inj h
   have hany := fun w1 (hb : Below (w.alloc (.cells #[.int .i64 a1] 3)).heap.size (w.alloc (.cells #[.int .i64 a1] 3)) w1) => impl_SetHas.hasAny a1 l0 A0 c0 w.heap.size w1 (Kd.C_below hr1 hb) (by have := hb.size; omega) ((hb.cell (p := ⟨w.heap.size, 0, none⟩) (by simp)).trans hcz) hall
   have HR := Aside0.mk hr0
   have HR1 := Aside0.mk hr1
   have HA := Aside0.mk hall
   clear hr0 hr1 ht hcz hsz hall h
   generalize (l0.any fun b => (impl_Block_has.f b.f0 b.f1 a1) == some true) = q at hany ⊢
   go_enter Tryz.func11, Tryz.ntmps11
   go_wp2_with (first | (go_at_call 10; refine hcon.mono ?_; rintro e w1 ⟨rfl, hb⟩) | (go_at_call 34; refine (hany _ hb).mono ?_; rintro e w' ⟨rfl, hb2⟩))
   go_ret
   exact ⟨rfl, hB0.trans ((hb.mono (by simp)).trans (hb2.mono (by have := hb.size; simp at this; omega)))⟩
  ·cases h
def impl_WaysLead.f (k : Nat) (l0 : List (S34)) (a1 : Int) : Option (Int) := (impl_WaysOk.f k l0).bind fun t604 => (if t604 = true then ((impl_isAddr.f a1).bind fun t605 => (if t605 = true then ((impl_lead.f k l0 a1).bind fun t606 => (some t606)) else (some (-1)))) else (some (-1)))
set_option maxHeartbeats 8000000 in
set_option maxRecDepth 100000 in
theorem impl_WaysLead.calls (k : Nat) (A0 : Option Addr) (c0 : Nat) (l0 : List (S34)) (a1 : Int) (r : Int) (w : World) (hr0 : Kd.C k34 w A0 l0.length l0) (hc0 : l0.length ≤ c0) (h : impl_WaysLead.f k l0 a1 = some r) :
  Calls Tryz.prog 12 #[.slice A0 l0.length c0, .int .i64 a1] w fun e w' => e = .returned (.int .i64 r) ∧ Below w.heap.size w w' := by
 have HR0 := Aside0.mk hr0
 have HC0 := Aside0.mk hc0
 clear hr0 hc0
 have HB := Aside0.mk (Below.refl w.heap.size w)
 have H : ((impl_WaysOk.f k l0).bind fun t604 => (if t604 = true then ((impl_isAddr.f a1).bind fun t605 => (if t605 = true then ((impl_lead.f k l0 a1).bind fun t606 => (some t606)) else (some (-1)))) else (some (-1)))) = some r := h
 clear h
 replace H := bd H
 obtain ⟨t604, A3, H⟩ := H
 replace H : (if t604 = true then ((impl_isAddr.f a1).bind fun t605 => (if t605 = true then ((impl_lead.f k l0 a1).bind fun t606 => (some t606)) else (some (-1)))) else (some (-1))) = some r := H
 by_cases c4 : t604 = true
 ·subst c4
  have H1 : ((impl_isAddr.f a1).bind fun t605 => (if t605 = true then ((impl_lead.f k l0 a1).bind fun t606 => (some t606)) else (some (-1)))) = some r := by rw [if_pos rfl] at H; exact H
  clear H
  have H := H1
  clear H1
  replace H := bd H
  obtain ⟨t605, A5, H⟩ := H
  replace H : (if t605 = true then ((impl_lead.f k l0 a1).bind fun t606 => (some t606)) else (some (-1))) = some r := H
  by_cases c6 : t605 = true
  ·subst c6
   have H1 : ((impl_lead.f k l0 a1).bind fun t606 => (some t606)) = some r := by rw [if_pos rfl] at H; exact H
   clear H
   have H := H1
   clear H1
   replace H := bd H
   obtain ⟨t606, A7, H⟩ := H
   replace H : (some t606) = some r := H
   obtain rfl := Option.some.inj H
   go_enter Tryz.func12, Tryz.ntmps12
   go_wp2_with (first | (refine gc (some 6) Tryz.func16 #[.slice A0 l0.length c0] ?_; (with_reducible refine (impl_WaysOk.calls k _ _ l0 true _ ?side1 ?side2 A3.out).mono ?_); (case side1 => exact zz49 HR0); (case side2 => exact HC0.out); rintro e w8 ⟨rfl, hb⟩; refine ⟨_, rfl, ?_⟩; replace HB := Aside0.mk (below_step zz3 hb); clear hb) | (go_at_call 37; (with_reducible refine (impl_isAddr.calls a1 true _ A5.out).mono ?_); rintro e w' ⟨rfl, ⟨nd, rfl⟩⟩) | (refine gc (some 15) Tryz.func20 #[.slice A0 l0.length c0, .int .i64 a1] ?_; (with_reducible refine (impl_lead.calls k _ _ l0 a1 t606 _ ?side1 ?side2 A7.out).mono ?_); (case side1 => repeat (first | exact (Kd.C_below HR0.out zz3) | (with_reducible refine Kd.C_alloc ?_ _) | (with_reducible refine Kd.C_drewN ?_ _) | (with_reducible refine Kd.C_drew ?_))); (case side2 => exact HC0.out); rintro e w9 ⟨rfl, hb⟩; refine ⟨_, rfl, ?_⟩; replace HB := Aside0.mk (below_step zz3 hb); clear hb))
   go_ret
   exact ⟨zz13, zz3⟩
  ·replace c6 := Bool.eq_false_iff.mpr c6
   subst c6
   have H1 : (some (-1)) = some r := by rw [if_neg (show ¬ (false = true) by decide)] at H; exact H
   clear H
   have H := H1
   clear H1
   obtain rfl := Option.some.inj H
   go_enter Tryz.func12, Tryz.ntmps12
   go_wp2_with (first | (refine gc (some 6) Tryz.func16 #[.slice A0 l0.length c0] ?_; (with_reducible refine (impl_WaysOk.calls k _ _ l0 true _ ?side1 ?side2 A3.out).mono ?_); (case side1 => exact zz49 HR0); (case side2 => exact HC0.out); rintro e w10 ⟨rfl, hb⟩; refine ⟨_, rfl, ?_⟩; replace HB := Aside0.mk (below_step zz3 hb); clear hb) | (go_at_call 37; (with_reducible refine (impl_isAddr.calls a1 false _ A5.out).mono ?_); rintro e w' ⟨rfl, ⟨nd, rfl⟩⟩))
   go_ret
   exact ⟨zz13, zz3⟩
 ·replace c4 := Bool.eq_false_iff.mpr c4
  subst c4
  have H1 : (some (-1)) = some r := by rw [if_neg (show ¬ (false = true) by decide)] at H; exact H
  clear H
  have H := H1
  clear H1
  obtain rfl := Option.some.inj H
  go_enter Tryz.func12, Tryz.ntmps12
  go_wp2_with (first | (refine gc (some 6) Tryz.func16 #[.slice A0 l0.length c0] ?_; (with_reducible refine (impl_WaysOk.calls k _ _ l0 false _ ?side1 ?side2 A3.out).mono ?_); (case side1 => exact zz49 HR0); (case side2 => exact HC0.out); rintro e w11 ⟨rfl, hb⟩; refine ⟨_, rfl, ?_⟩; replace HB := Aside0.mk (below_step zz3 hb); clear hb))
  go_ret
  exact ⟨zz13, zz3⟩
end Go.Proofs.YthkjkmgbdahggaaGreat.PY
