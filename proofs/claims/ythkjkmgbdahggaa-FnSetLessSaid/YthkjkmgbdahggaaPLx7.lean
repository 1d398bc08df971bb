/- A text printed by this session's wip/myprint.py over the kit's print: contracts of functions of the given program, each at what its Lean function says. -/
import Derived.Test.YthkjkmgbdahggaaPLx0
import Derived.Test.YthkjkmgbdahggaaPLx2
import Derived.Test.YthkjkmgbdahggaaPLx3
import Derived.Test.YthkjkmgbdahggaaPLx4
import Derived.Test.YthkjkmgbdahggaaPLx6
namespace Go.Proofs.Ythkjkmgbdahggaa.PL
open Go.RowKit Go.Proofs.YthkjkmgbdahggaaW.PrintWords Go.Proofs.YthkjkmgbdahggaaW.PrintLast Go.Proofs.YthkjkmgbdahggaaW.PrintMore Go.Proofs.Ythkjkmgbdahggaa.Sq
attribute [local go_sem] max2_int min2_int max_two min_two max_three min_three max_four min_four   -- for this text's walks alone
set_option linter.unusedVariables false
set_option linter.unusedSimpArgs false
def impl_set.l0 : Nat → List (S40) → List (S68) → Int → Int → Option ((List (S40)))
 | 0, _, _, _, _ => none
 | k + 1, x3, x7, x8, x9 => if x9 < x8 then (if 0 ≤ x9 then (if x9 < (x7.length : Int) then ((impl_span_blocks.f k ((rd_T68 x7 x9).f0) ((rd_T68 x7 x9).f1)).bind fun t171 => (if x3.length + t171.length < 8796093022208 then (impl_set.l0 k (x3 ++ t171) x7 x8 (wrap64 (x9 + 1))) else (none))) else (none)) else (none)) else (some x3)
def impl_set.f (k : Nat) (l0 : List (S68)) : Option ((List (S40))) := (impl_union.f k l0).bind fun t166 => (impl_set.l0 k ([] : List (S40)) t166 (t166.length : Int) 0)
set_option maxHeartbeats 8000000 in
set_option maxRecDepth 100000 in
theorem impl_set.calls (k : Nat) (A0 : Option Addr) (c0 : Nat) (l0 : List (S68)) (r : List (S40)) (w : World) (hr0 : Kd.C k68 w A0 l0.length l0) (hc0 : l0.length ≤ c0) (h : impl_set.f k l0 = some r) :
  Calls Try.prog 52 #[.slice A0 l0.length c0] w fun e w' => ∃ v0_ : Value, e = .returned (v0_) ∧ Kd.R k40 40 w' w.heap.size (fun _ => True) v0_ r ∧ Below w.heap.size w w' := by
 have hu68 := Try.underlying68
 have HR0 := Aside0.mk hr0
 have HC0 := Aside0.mk hc0
 clear hr0 hc0
 have HB := Aside0.mk (Below.refl w.heap.size w)
 have H : ((impl_union.f k l0).bind fun t166 => (impl_set.l0 k ([] : List (S40)) t166 (t166.length : Int) 0)) = some r := h
 clear h
 replace H := bd H
 obtain ⟨t166, A2, H⟩ := H
 replace H : (impl_set.l0 k ([] : List (S40)) t166 (t166.length : Int) 0) = some r := H
 have H' := Aside0.mk H
 clear H
 go_enter Try.func52, Try.ntmps52
 go_wp2_with (first | (refine gc (some 7) Try.func76 #[.slice A0 l0.length c0] ?_; (with_reducible refine (impl_union.calls k _ _ l0 t166 _ ?side1 ?side2 A2.out).mono ?_); (case side1 => exact zz9 HR0); (case side2 => exact HC0.out); rintro e w3 ⟨v167, rfl, ho0, hb⟩; refine ⟨_, rfl, ?_⟩; have HO168 := Aside0.mk (Kd.R_lower ho0 (below_size zz5)); replace HB := Aside0.mk (below_step zz5 hb); clear hb ho0; obtain ⟨Ao4, co4, eo4⟩ := Kd.R_slice HO168.out; subst eo4))
 go_loopg [3, 9] k (fun kq v3 v9 w' => ∃ (x3_1 : List (S40)) (x9_1 : Int), v9 = .int .i64 x9_1 ∧ Aside0 (impl_set.l0 kq x3_1 t166 (t166.length : Int) x9_1 = some r) ∧ Aside0 (kq ≤ k) ∧ Aside0 (Kd.R k40 40 w' w.heap.size (fun _ => True) v3 x3_1) ∧ Aside0 (Kd.R k68 68 w' w.heap.size (fun _ => True) (.slice Ao4 t166.length co4) t166) ∧ Aside0 (Below w.heap.size w w'))
 case atStart => exact ⟨(([] : List (S40))), (0), zz1, H', ⟨Nat.le_refl _⟩, ⟨zz11⟩, ⟨zz12 HO168⟩, ⟨zz5⟩⟩
 case round =>
  clear H'
  try clear p2
  obtain ⟨x3_1, x9_1, rfl, HA, HK1, HO_3, HO_7, HB⟩ := hrel
  cases gk with
  | zero => exact absurd HA.out (by simp [impl_set.l0])
  | succ k1 =>
   have H := HA.out
   clear HA
   simp only [impl_set.l0] at H
   replace H := ic H
   rcases H with ⟨c5b0, H⟩ | ⟨c5b0, H⟩
   ·replace H := gd H
    obtain ⟨c6b0, H⟩ := H
    replace H := gd H
    obtain ⟨c7b0, H⟩ := H
    replace H := bd H
    obtain ⟨t171, A8, H⟩ := H
    replace H : (if x3_1.length + t171.length < 8796093022208 then (impl_set.l0 k1 (x3_1 ++ t171) t166 (t166.length : Int) (wrap64 (x9_1 + 1))) else (none)) = some r := H
    replace H := gp H
    obtain ⟨c9, H⟩ := H
    have LMc9 := Aside0.mk c9
    clear c9
    obtain ⟨y174, hy174⟩ : ∃ y_ : List (S40), y_ = (x3_1 ++ t171) := ⟨_, rfl⟩
    replace H : (impl_set.l0 k1 y174 t166 (t166.length : Int) (wrap64 (x9_1 + 1))) = some r := by first | (rw [hy174]; with_reducible exact H) | (have H2_ := (Option.bind_some _ _).symm.trans H; rw [hy174]; with_reducible exact H2_) | (have H2_ := (Option.bind_some _ _).symm.trans H; with_reducible exact H2_) | with_reducible exact H | (rw [hy174]; exact H) | exact H
    have Ny174 := Aside0.mk hy174
    clear hy174
    have H' := Aside0.mk H
    clear H
    obtain ⟨⟨ad169, e169, hx169_0, hx169_1⟩, p169, q169⟩ := wi (at_T68 (Kd.R_reads' HO_7.out).2.2 x9_1)
    cases e169
    go_wp2_with (first | (refine be 5 #[.int .i64 0, .int .i64 0] 68 ?_; intro gb170 hg w10 hbox hb; replace HO_3 := Aside0.mk (Kd.R_below (zz12 HO_3) hb); replace HO_7 := Aside0.mk (Kd.R_below (Kd.R_elderB (zz12 HO_7) gb170 (Nat.le_of_eq hg.symm)) hb); have BK170 := Aside0.mk hbox; have GW170 := Aside0.mk (zz4 : w.heap.size ≤ gb170); have GE170 := Aside0.mk (zz4 : w.heap.size ≤ gb170); replace HB := Aside0.mk (below_step zz5 hb); clear hb hbox hg; have hcz11_0 : w10.cell? ⟨gb170, 0, none⟩ = some (.int .i64 0) := (blk_cell BK170.out 0).trans rfl; have hcz11_1 : w10.cell? ⟨gb170, 1, none⟩ = some (.int .i64 0) := (blk_cell BK170.out 1).trans rfl; have hfz11_0 := blk_frozen BK170.out 0; have hfz11_1 := blk_frozen BK170.out 1) | (refine gc (some 15) Try.func47 #[.agg #[.int .i64 ((rd_T68 t166 x9_1).f0), .int .i64 ((rd_T68 t166 x9_1).f1)]] ?_; (with_reducible refine (impl_span_blocks.calls k1 ((rd_T68 t166 x9_1).f0) ((rd_T68 t166 x9_1).f1) t171 _ A8.out).mono ?_); rintro e w12 ⟨v172, rfl, ho0, hb⟩; refine ⟨_, rfl, ?_⟩; replace HO_7 := Aside0.mk (Kd.R_below (by (with_reducible repeat (first | apply Kd.R_alloc | apply Kd.R_drewN | apply Kd.R_drew)); exact (Kd.R_mono (Kd.R_far (p := ⟨gb170, 1, none⟩) (Kd.R_far (p := ⟨gb170, 0, none⟩) (Kd.R_mono HO_7.out (fun k_ hk => (⟨hk, hk.2⟩ : _ ∧ k_ ≠ gb170))) (fun _ hk => hk.2) (.int .i64 ((rd_T68 t166 x9_1).f0))) (fun _ hk => hk.2) (.int .i64 ((rd_T68 t166 x9_1).f1))) (fun _ h_ => h_.1))) hb); have HO173 := Aside0.mk (Kd.R_lower (Kd.R_new' ho0 (Kd.R_lt (by (with_reducible repeat (first | apply Kd.R_alloc | apply Kd.R_drewN | apply Kd.R_drew)); exact (Kd.R_mono (Kd.R_far (p := ⟨gb170, 1, none⟩) (Kd.R_far (p := ⟨gb170, 0, none⟩) (Kd.R_types HO_3.out BK170.out (by decide)) (fun _ hk => hk.2) (.int .i64 ((rd_T68 t166 x9_1).f0))) (fun _ hk => hk.2) (.int .i64 ((rd_T68 t166 x9_1).f1))) (fun _ h_ => h_.1))))) (below_size (zz6 GE170))); replace HO_3 := Aside0.mk (Kd.R_elder' (by (with_reducible repeat (first | apply Kd.R_alloc | apply Kd.R_drewN | apply Kd.R_drew)); exact (Kd.R_mono (Kd.R_far (p := ⟨gb170, 1, none⟩) (Kd.R_far (p := ⟨gb170, 0, none⟩) (Kd.R_types HO_3.out BK170.out (by decide)) (fun _ hk => hk.2) (.int .i64 ((rd_T68 t166 x9_1).f0))) (fun _ hk => hk.2) (.int .i64 ((rd_T68 t166 x9_1).f1))) (fun _ h_ => h_.1))) (Kd.R_base ho0) hb); replace BK170 := Aside0.mk (blk_below (g := gb170) (o := .cells #[.int .i64 ((rd_T68 t166 x9_1).f0), .int .i64 ((rd_T68 t166 x9_1).f1)] 68 (0, 0)) (by (with_reducible repeat (first | refine blk_drewN ?_ _ | refine blk_drew ?_ | refine blk_alloc ?_ _)); refine blk_put (cs := #[.int .i64 ((rd_T68 t166 x9_1).f0), .int .i64 0]) ?_ 1 _ rfl; (with_reducible repeat (first | refine blk_drewN ?_ _ | refine blk_drew ?_ | refine blk_alloc ?_ _)); refine blk_put (cs := #[.int .i64 0, .int .i64 0]) ?_ 0 _ rfl; (with_reducible repeat (first | refine blk_drewN ?_ _ | refine blk_drew ?_ | refine blk_alloc ?_ _)); exact BK170.out) hb); replace HB := Aside0.mk (below_step (zz6 GE170) hb); clear hb ho0; obtain ⟨Ao14, co14, eo14⟩ := Kd.R_slice HO173.out; subst eo14) | ((with_reducible refine gate_builtin (b := .append) (xs := #[.tmp 13, .tmp 15]) rfl ?_); at_builtin; refine Kd.R_append_rows k40 (w0 := w) w.heap.size rfl (.tmp 13) (.tmp 15) 25 40 (.agg #[(.int .i64 0), (.int .i64 0)]) 16 rfl Try.underlying25 info40 rfl (by decide) (by omega) u3 x3_1 t171 _ _ _ (fun k_ => some k_ ≠ (.slice Ao14 t171.length co14 : Value).ownBlock) (fun _ => False) rfl rfl ?aO ?aR (fun _ _ h => h) (fun _ h => h.elim) ?aF ?aB ?aS ?aL ?_; (case aR => exact zz20 HO173); (case aB => exact zz6 GE170); (case aF => exact (fun k_ hk => Kd.fresh' (Kd.R_lt (zz12 HO173)) k_ hk)); (case aO => exact zz21 HO_3); (case aS => exact zz14 GE170); (case aL => exact zz3 LMc9); intro v175 w13 ho hb hg hat; rw [← Ny174.out] at ho; replace HO_7 := Aside0.mk (Kd.R_over' (zz12 HO_7) (Kd.R_typed (zz12 HO_3)) (by decide) hg); replace BK170 := Aside0.mk (blk_grown (g := gb170) (o := .cells #[.int .i64 ((rd_T68 t166 x9_1).f0), .int .i64 ((rd_T68 t166 x9_1).f1)] 68 (0, 0)) (zz7 BK170) hg (Kd.R_ne HO_3.out BK170.out (by decide))); replace HO173 := Aside0.mk (Kd.R_after (ok := (fun _ => True)) (zz12 HO173) hg hat); replace HB := Aside0.mk hb; have HO176 := Aside0.mk ho; clear HO_3 ho hb hg hat))
    go_roundg k1
    case measure => have := HK1.out; omega
    case rel => exact ⟨(y174), (wrap64 (x9_1 + 1)), zz1, H', ⟨zz3 HK1⟩, ⟨zz19 HO176⟩, ⟨zz19 HO_7⟩, ⟨zz6 GE170⟩⟩
   ·obtain rfl := Option.some.inj H
    go_wp2
    go_ret
    exact ⟨_, zz8, zz12 HO_3, zz5⟩
def impl_spans.l0 : Nat → List (S68) → List (S40) → Int → Int → Option ((List (S68)))
 | 0, _, _, _, _ => none
 | k + 1, x3, x6, x7, x8 => if x8 < x7 then (if 0 ≤ x8 then (if x8 < (x6.length : Int) then ((impl_Block_last.f ((rd_T40 x6 x8).f0) ((rd_T40 x6 x8).f1)).bind fun t179 => (if x3.length < 8796093022208 then (impl_spans.l0 k (x3 ++ [(⟨(rd_T40 x6 x8).f0, t179⟩ : S68)]) x6 x7 (wrap64 (x8 + 1))) else (none))) else (none)) else (none)) else (some x3)
def impl_spans.f (k : Nat) (l0 : List (S40)) : Option ((List (S68))) := impl_spans.l0 k ([] : List (S68)) l0 (l0.length : Int) 0
def impl_spans.T5 : Bool × List (List Nat × List Nat) := (true, [([], []), ([], []), ([1], [1]), ([], []), ([3], [3]), ([2, 4], [2, 4]), ([5], [5]), ([0, 6, 4], [0, 6]), ([7, 7, 0, 1, 2, 3, 4, 5, 6, 7], [0, 7])])
def impl_spans.B5 : List Nat := [0, 0, 2, 0, 8, 30, 62, 127, 255]
theorem impl_spans.tab5 : rtab .any (opsOf Try.f53 5) = impl_spans.T5 := by kernel_rfl
theorem impl_spans.bits5 : waitsOk impl_spans.T5.2 impl_spans.B5 = true := by kernel_rfl
set_option maxHeartbeats 8000000 in
set_option maxRecDepth 100000 in
theorem impl_spans.calls (k : Nat) (A0 : Option Addr) (c0 : Nat) (l0 : List (S40)) (r : List (S68)) (w : World) (hr0 : Kd.C k40 w A0 l0.length l0) (hc0 : l0.length ≤ c0) (h : impl_spans.f k l0 = some r) :
  Calls Try.prog 53 #[.slice A0 l0.length c0] w fun e w' => ∃ v0_ : Value, e = .returned (v0_) ∧ Kd.R k68 68 w' w.heap.size (fun _ => True) v0_ r ∧ Below w.heap.size w w' := by
 have hu40 := Try.underlying40
 have hu68 := Try.underlying68
 have HR0 := Aside0.mk hr0
 have HC0 := Aside0.mk hc0
 clear hr0 hc0
 have HB := Aside0.mk (Below.refl w.heap.size w)
 have H : (impl_spans.l0 k ([] : List (S68)) l0 (l0.length : Int) 0) = some r := h
 clear h
 have H' := Aside0.mk H
 clear H
 go_enter Try.func53, Try.ntmps53
 go_wp2
 go_loopg [3, 8] k (fun kq v3 v8 w' => ∃ (x3_1 : List (S68)) (x8_1 : Int), v8 = .int .i64 x8_1 ∧ Aside0 (impl_spans.l0 kq x3_1 l0 (l0.length : Int) x8_1 = some r) ∧ Aside0 (kq ≤ k) ∧ Aside0 (Kd.R k68 68 w' w.heap.size (fun _ => True) v3 x3_1) ∧ Aside0 (Below w.heap.size w w'))
 case atStart => exact ⟨(([] : List (S68))), (0), zz1, H', ⟨Nat.le_refl _⟩, ⟨zz11⟩, ⟨zz5⟩⟩
 case round =>
  clear H'
  obtain ⟨x3_1, x8_1, rfl, HA, HK1, HO_3, HB⟩ := hrel
  cases gk with
  | zero => exact absurd HA.out (by simp [impl_spans.l0])
  | succ k1 =>
   have H := HA.out
   clear HA
   simp only [impl_spans.l0] at H
   replace H := ic H
   rcases H with ⟨c2b0, H⟩ | ⟨c2b0, H⟩
   ·replace H := gd H
    obtain ⟨c3b0, H⟩ := H
    replace H := gd H
    obtain ⟨c4b0, H⟩ := H
    replace H := bd H
    obtain ⟨t179, A5, H⟩ := H
    replace H : (if x3_1.length < 8796093022208 then (impl_spans.l0 k1 (x3_1 ++ [(⟨(rd_T40 l0 x8_1).f0, t179⟩ : S68)]) l0 (l0.length : Int) (wrap64 (x8_1 + 1))) else (none)) = some r := H
    replace H := gp H
    obtain ⟨c6, H⟩ := H
    have LMc6 := Aside0.mk c6
    clear c6
    obtain ⟨y180, hy180⟩ : ∃ y_ : List (S68), y_ = (x3_1 ++ [(⟨(rd_T40 l0 x8_1).f0, t179⟩ : S68)]) := ⟨_, rfl⟩
    replace H : (impl_spans.l0 k1 y180 l0 (l0.length : Int) (wrap64 (x8_1 + 1))) = some r := by first | (rw [hy180]; with_reducible exact H) | (have H2_ := (Option.bind_some _ _).symm.trans H; rw [hy180]; with_reducible exact H2_) | (have H2_ := (Option.bind_some _ _).symm.trans H; with_reducible exact H2_) | with_reducible exact H | (rw [hy180]; exact H) | exact H
    have Ny180 := Aside0.mk hy180
    clear hy180
    have H' := Aside0.mk H
    clear H
    obtain ⟨⟨ad177, e177, hx177_0, hx177_1⟩, p177, q177⟩ := wi (at_T40 HR0.out x8_1)
    cases e177
    replace hx177_0 := (HB.out.cell (World.block_lt_of_cell? w _ hx177_0)).trans hx177_0
    replace hx177_1 := (HB.out.cell (World.block_lt_of_cell? w _ hx177_1)).trans hx177_1
    try go_wp2_with (first | (refine be 5 #[.int .i64 0, .int .i64 0] 40 ?_; intro gb178 hg w7 hbox hb; replace HO_3 := Aside0.mk (Kd.R_below (zz12 HO_3) hb); have BK178 := Aside0.mk hbox; have GW178 := Aside0.mk (zz4 : w.heap.size ≤ gb178); have GE178 := Aside0.mk (zz4 : w.heap.size ≤ gb178); replace HB := Aside0.mk (below_step zz5 hb); clear hb hbox hg; have hcz8_0 : w7.cell? ⟨gb178, 0, none⟩ = some (.int .i64 0) := (blk_cell BK178.out 0).trans rfl; have hcz8_1 : w7.cell? ⟨gb178, 1, none⟩ = some (.int .i64 0) := (blk_cell BK178.out 1).trans rfl; have hfz8_0 := blk_frozen BK178.out 0; have hfz8_1 := blk_frozen BK178.out 1))
    have n0_ : Aside0 (Kd.R k68 68 ((w7.setCell ⟨gb178, 0, none⟩ (.int .i64 ((rd_T40 l0 x8_1).f0))).setCell ⟨gb178, 1, none⟩ (.int .i64 ((rd_T40 l0 x8_1).f1))) w.heap.size (fun _ => True) u3 x3_1) := ⟨by (with_reducible repeat (first | apply Kd.R_alloc | apply Kd.R_drewN | apply Kd.R_drew)); exact Kd.R_mono (Kd.R_far (p := ⟨gb178, 1, none⟩) (Kd.R_far (p := ⟨gb178, 0, none⟩) (Kd.R_types HO_3.out BK178.out (by decide)) (fun _ hk => hk.2) (.int .i64 ((rd_T40 l0 x8_1).f0))) (fun _ hk => hk.2) (.int .i64 ((rd_T40 l0 x8_1).f1))) (fun _ hk => trivial)⟩
    have n1_ : Aside0 (((w7.setCell ⟨gb178, 0, none⟩ (.int .i64 ((rd_T40 l0 x8_1).f0))).setCell ⟨gb178, 1, none⟩ (.int .i64 ((rd_T40 l0 x8_1).f1))).heap[gb178]? = some (.cells #[.int .i64 ((rd_T40 l0 x8_1).f0), .int .i64 ((rd_T40 l0 x8_1).f1)] 40 (0, 0))) := ⟨by (with_reducible repeat (first | refine blk_drewN ?_ _ | refine blk_drew ?_ | refine blk_alloc ?_ _)); refine blk_put (cs := #[.int .i64 ((rd_T40 l0 x8_1).f0), .int .i64 0]) ?_ 1 _ rfl; (with_reducible repeat (first | refine blk_drewN ?_ _ | refine blk_drew ?_ | refine blk_alloc ?_ _)); refine blk_put (cs := #[.int .i64 0, .int .i64 0]) ?_ 0 _ rfl; (with_reducible repeat (first | refine blk_drewN ?_ _ | refine blk_drew ?_ | refine blk_alloc ?_ _)); exact BK178.out⟩
    have n2_ : Aside0 (Below w.heap.size w ((w7.setCell ⟨gb178, 0, none⟩ (.int .i64 ((rd_T40 l0 x8_1).f0))).setCell ⟨gb178, 1, none⟩ (.int .i64 ((rd_T40 l0 x8_1).f1)))) := ⟨zz6 GE178⟩
    (try clear HO_3)
    (try clear BK178)
    (try clear HB)
    generalize ((w7.setCell ⟨gb178, 0, none⟩ (.int .i64 ((rd_T40 l0 x8_1).f0))).setCell ⟨gb178, 1, none⟩ (.int .i64 ((rd_T40 l0 x8_1).f1))) = w9 at n0_ n1_ n2_ ⊢
    have HO_3 := n0_
    have BK178 := n1_
    have HB := n2_
    clear n0_ n1_ n2_
    replace HO_3 := Aside0.mk (Kd.R_drew HO_3.out)
    replace BK178 := Aside0.mk (blk_drew BK178.out)
    replace HB := Aside0.mk (below_drew1 HB.out)
    refine start_ (n := 9) (S := fun w' => w'.cell? ⟨gb178, 0, none⟩ = some (.int .i64 ((rd_T40 l0 x8_1).f0)) ∧ w'.cell? ⟨gb178, 1, none⟩ = some (.int .i64 ((rd_T40 l0 x8_1).f1))) (ds := []) (bm 9 0) (by kernel_rfl) rfl rfl ⟨(blk_cell BK178.out 0).trans rfl, (blk_cell BK178.out 1).trans rfl⟩ (fun hHeld => ?_); refine with_tabW impl_spans.tab5 impl_spans.bits5 (fun HT_ HW_ => ?_)
    generalize w9.drew = w10 at HO_3 BK178 HB hHeld ⊢
    refine pu 0 12 (bm 9 1) ?_
    refine pu 1 13 (bm 9 3) ?_
    refine tk 2 14 (bm 9 7) ?_
    refine tk 3 15 (bm 9 15) ?_
    refine on 4 (some 16) (bm 9 31) (fun K hK => ?_)
    refine gs Try.func89 #[.agg #[.int .i64 ((rd_T40 l0 x8_1).f0), .int .i64 ((rd_T40 l0 x8_1).f1)]] ?_
    with_reducible refine (impl_Block_last.calls ((rd_T40 l0 x8_1).f0) ((rd_T40 l0 x8_1).f1) t179 _ A5.out).mono ?_
    rintro e w11 ⟨rfl, hb⟩
    refine ⟨_, rfl, ?_⟩
    replace HO_3 := Aside0.mk (Kd.R_below (zz12 HO_3) hb)
    replace BK178 := Aside0.mk (blk_below (g := gb178) (o := .cells #[.int .i64 ((rd_T40 l0 x8_1).f0), .int .i64 ((rd_T40 l0 x8_1).f1)] 40 (0, 0)) (zz7 BK178) hb)
    replace HB := Aside0.mk (below_step (zz6 GE178) hb)
    (try clear hb)
    (try clear hb2)
    (try clear hk)
    (try clear hi)
    refine hK.out _ _ ⟨(blk_cell BK178.out 0).trans rfl, (blk_cell BK178.out 1).trans rfl⟩ (fun hHeld => ?_)
    clear hK K
    refine nm 16 ?_
    refine pu 5 17 (bm 9 63) ?_
    refine on 6 (some 18) (bm 9 127) (fun K hK => ?_)
    refine value_ (w1 := ?_) (v := ?_) (by rfl) rfl ?_ ?_
    rotate_left 2
    ·go_simp
     constructor
     ·rfl
     ·rfl
    refine hK.out _ _ ⟨(blk_cell (blk_alloc BK178.out _) 0).trans rfl, (blk_cell (blk_alloc BK178.out _) 1).trans rfl⟩ (fun hHeld => ?_)
    clear hK K
    refine nm 18 ?_
    refine on 7 (some 19) (bm 9 255) (fun K hK => ?_)
    refine Kd.R_append_step k68 (w0 := w) w.heap.size (by rfl) (.tmp 12) (.tmp 18) 75 68 (.agg #[(.int .i64 0), (.int .i64 0)]) 16 rfl Try.underlying75 info68 rfl (by decide) (by omega) u3 x3_1 (⟨(rd_T40 l0 x8_1).f0, t179⟩ : S68) [.int .i64 ((rd_T40 l0 x8_1).f0), .int .i64 t179] (fun _ => True) (fun _ => False) rfl rfl ?aP (fun _ hk => hk.elim) ?aF ?aO ?aB ?aS ?aL ?_
    (case aP => exact k68_mkM _ _ _ (⟨(rd_T40 l0 x8_1).f0, t179⟩ : S68))
    (case aB => exact zz6 GE178)
    (case aF => exact zz13)
    (case aO => exact zz12 HO_3)
    (case aS => exact zz14 GE178)
    (case aL => exact zz3 LMc6)
    intro v181 w12 ho hb hg hat
    rw [← Ny180.out] at ho
    replace BK178 := Aside0.mk (blk_grown (g := gb178) (o := .cells #[.int .i64 ((rd_T40 l0 x8_1).f0), .int .i64 ((rd_T40 l0 x8_1).f1)] 40 (0, 0)) (zz7 BK178) hg (Kd.R_ne HO_3.out BK178.out (by decide)))
    replace HB := Aside0.mk hb
    have HO182 := Aside0.mk ho
    clear HO_3 ho hb hg hat
    refine hK.out _ _ ⟨(blk_cell BK178.out 0).trans rfl, (blk_cell BK178.out 1).trans rfl⟩ (fun hHeld => ?_)
    clear hK K
    refine nm 19 ?_
    refine pu 8 3 (bm 9 511) ?_
    refine done_ (done_of HT_.out (by kernel_rfl)) ?_
    try go_wp2
    go_roundg k1
    case measure => have := HK1.out; omega
    case rel => exact ⟨(y180), (wrap64 (x8_1 + 1)), zz1, H', ⟨zz3 HK1⟩, ⟨zz12 HO182⟩, ⟨zz6 GE178⟩⟩
   ·obtain rfl := Option.some.inj H
    go_wp2
    go_ret
    exact ⟨_, zz8, zz12 HO_3, zz5⟩
def impl_SetOk.f (k : Nat) (l0 : List (S40)) : Option (Bool) := (impl_blocksOk.f k l0).bind fun t183 => (if t183 = true then ((impl_spans.f k l0).bind fun t184 => ((impl_set.f k t184).bind fun t187 => ((impl_Block_51.f k t187 l0).bind fun t190 => (some t190)))) else (some false))
set_option maxHeartbeats 8000000 in
set_option maxRecDepth 100000 in
theorem impl_SetOk.calls (k : Nat) (A0 : Option Addr) (c0 : Nat) (l0 : List (S40)) (r : Bool) (w : World) (hr0 : Kd.C k40 w A0 l0.length l0) (hc0 : l0.length ≤ c0) (h : impl_SetOk.f k l0 = some r) :
  Calls Try.prog 13 #[.slice A0 l0.length c0] w fun e w' => e = .returned (.bool r) ∧ Below w.heap.size w w' := by
 have HR0 := Aside0.mk hr0
 have HC0 := Aside0.mk hc0
 clear hr0 hc0
 have HB := Aside0.mk (Below.refl w.heap.size w)
 have H : ((impl_blocksOk.f k l0).bind fun t183 => (if t183 = true then ((impl_spans.f k l0).bind fun t184 => ((impl_set.f k t184).bind fun t187 => ((impl_Block_51.f k t187 l0).bind fun t190 => (some t190)))) else (some false))) = some r := h
 clear h
 replace H := bd H
 obtain ⟨t183, A2, H⟩ := H
 replace H : (if t183 = true then ((impl_spans.f k l0).bind fun t184 => ((impl_set.f k t184).bind fun t187 => ((impl_Block_51.f k t187 l0).bind fun t190 => (some t190)))) else (some false)) = some r := H
 by_cases c3 : t183 = true
 ·subst c3
  have H1 : ((impl_spans.f k l0).bind fun t184 => ((impl_set.f k t184).bind fun t187 => ((impl_Block_51.f k t187 l0).bind fun t190 => (some t190)))) = some r := by rw [if_pos rfl] at H; exact H
  clear H
  have H := H1
  clear H1
  replace H := bd H
  obtain ⟨t184, A4, H⟩ := H
  replace H : ((impl_set.f k t184).bind fun t187 => ((impl_Block_51.f k t187 l0).bind fun t190 => (some t190))) = some r := H
  replace H := bd H
  obtain ⟨t187, A5, H⟩ := H
  replace H : ((impl_Block_51.f k t187 l0).bind fun t190 => (some t190)) = some r := H
  replace H := bd H
  obtain ⟨t190, A6, H⟩ := H
  replace H : (some t190) = some r := H
  obtain rfl := Option.some.inj H
  go_enter Try.func13, Try.ntmps13
  go_wp2_with (first | (refine gc (some 4) Try.func50 #[.slice A0 l0.length c0] ?_; (with_reducible refine (impl_blocksOk.calls k _ _ l0 true _ ?side1 ?side2 A2.out).mono ?_); (case side1 => exact zz9 HR0); (case side2 => exact HC0.out); rintro e w7 ⟨rfl, hb⟩; refine ⟨_, rfl, ?_⟩; replace HB := Aside0.mk (below_step zz5 hb); clear hb) | (go_at_call 53; (with_reducible refine (impl_spans.calls k _ _ l0 t184 _ ?side1 ?side2 A4.out).mono ?_); (case side1 => exact zz22 HR0); (case side2 => exact HC0.out); rintro e w8 ⟨v185, rfl, ho0, hb⟩; have HO186 := Aside0.mk (Kd.R_lower ho0 (below_size zz5)); replace HB := Aside0.mk (below_step zz5 hb); clear hb ho0; obtain ⟨Ao9, co9, eo9⟩ := Kd.R_slice HO186.out; subst eo9) | (go_at_call 52; (with_reducible refine (impl_set.calls k _ _ t184 t187 _ ?side1 ?side2 A5.out).mono ?_); (case side1 => exact zz20 HO186); (case side2 => exact zz23 HO186); rintro e w10 ⟨v188, rfl, ho0, hb⟩; replace HO186 := Aside0.mk (Kd.R_below (zz12 HO186) hb); have HO189 := Aside0.mk (Kd.R_lower ho0 (below_size zz5)); replace HB := Aside0.mk (below_step zz5 hb); clear hb ho0; obtain ⟨Ao11, co11, eo11⟩ := Kd.R_slice HO189.out; subst eo11) | (go_at_call 51; (with_reducible refine (impl_Block_51.calls k _ _ t187 _ _ l0 t190 _ ?side1 ?side2 ?side3 ?side4 A6.out).mono ?_); (case side1 => exact zz20 HO189); (case side2 => exact zz23 HO189); (case side3 => exact zz22 HR0); (case side4 => exact HC0.out); rintro e w' ⟨rfl, ⟨nd, rfl⟩⟩))
  go_ret
  exact ⟨zz8, zz5⟩
 ·replace c3 := Bool.eq_false_iff.mpr c3
  subst c3
  have H1 : (some false) = some r := by rw [if_neg (show ¬ (false = true) by decide)] at H; exact H
  clear H
  have H := H1
  clear H1
  obtain rfl := Option.some.inj H
  go_enter Try.func13, Try.ntmps13
  go_wp2_with (first | (refine gc (some 4) Try.func50 #[.slice A0 l0.length c0] ?_; (with_reducible refine (impl_blocksOk.calls k _ _ l0 false _ ?side1 ?side2 A2.out).mono ?_); (case side1 => exact zz9 HR0); (case side2 => exact HC0.out); rintro e w12 ⟨rfl, hb⟩; refine ⟨_, rfl, ?_⟩; replace HB := Aside0.mk (below_step zz5 hb); clear hb))
  go_ret
  exact ⟨zz8, zz5⟩
def impl_Block_has.f (a0_0 : Int) (a0_1 : Int) (a1 : Int) : Option (Bool) := (impl_Block_last.f a0_0 a0_1).bind fun t192 => ((impl_in.f a1 a0_0 t192).bind fun t193 => (some t193))
set_option maxHeartbeats 8000000 in
set_option maxRecDepth 100000 in
theorem impl_Block_has.calls (a0_0 : Int) (a0_1 : Int) (a1 : Int) (r : Bool) (w : World) (h : impl_Block_has.f a0_0 a0_1 a1 = some r) :
  Calls Try.prog 57 #[.agg #[.int .i64 a0_0, .int .i64 a0_1], .int .i64 a1] w fun e w' => e = .returned (.bool r) ∧ Below w.heap.size w w' := by
 have hu40 := Try.underlying40
 have HB := Aside0.mk (Below.refl w.heap.size w)
 have H : ((impl_Block_last.f a0_0 a0_1).bind fun t192 => ((impl_in.f a1 a0_0 t192).bind fun t193 => (some t193))) = some r := h
 clear h
 replace H := bd H
 obtain ⟨t192, A3, H⟩ := H
 replace H : ((impl_in.f a1 a0_0 t192).bind fun t193 => (some t193)) = some r := H
 replace H := bd H
 obtain ⟨t193, A4, H⟩ := H
 replace H : (some t193) = some r := H
 obtain rfl := Option.some.inj H
 go_enter Try.func57, Try.ntmps57
 try go_wp2_with (first | (refine be 2 #[.int .i64 a0_0, .int .i64 a0_1] 40 ?_; intro gb191 hg w5 hbox hb; have BK191 := Aside0.mk hbox; have GW191 := Aside0.mk (zz4 : w.heap.size ≤ gb191); have GE191 := Aside0.mk (zz4 : w.heap.size ≤ gb191); replace HB := Aside0.mk (below_step zz5 hb); clear hb hbox hg))
 replace BK191 := Aside0.mk (blk_drew BK191.out)
 replace HB := Aside0.mk (below_drew1 HB.out)
 refine start_ (n := 7) (S := fun w' => w'.cell? ⟨gb191, 0, none⟩ = some (.int .i64 a0_0) ∧ w'.cell? ⟨gb191, 1, none⟩ = some (.int .i64 a0_1)) (ds := []) (bm 7 0) (by kernel_rfl) rfl rfl ⟨(blk_cell BK191.out 0).trans rfl, (blk_cell BK191.out 1).trans rfl⟩ (fun hHeld => ?_)
 generalize w5.drew = w6 at BK191 HB hHeld ⊢
 refine pu 0 5 (bm 7 1) ?_
 refine pu 1 6 (bm 7 3) ?_
 refine tk 2 7 (bm 7 7) ?_
 refine tk 3 8 (bm 7 15) ?_
 refine on 4 (some 9) (bm 7 31) (fun K hK => ?_)
 refine gs Try.func89 #[.agg #[.int .i64 a0_0, .int .i64 a0_1]] ?_
 with_reducible refine (impl_Block_last.calls a0_0 a0_1 t192 _ A3.out).mono ?_
 rintro e w7 ⟨rfl, hb⟩
 refine ⟨_, rfl, ?_⟩
 replace BK191 := Aside0.mk (blk_below (g := gb191) (o := .cells #[.int .i64 a0_0, .int .i64 a0_1] 40 (0, 0)) (zz7 BK191) hb)
 replace HB := Aside0.mk (below_step (zz6 GE191) hb)
 (try clear hb)
 (try clear hb2)
 (try clear hk)
 (try clear hi)
 refine hK.out _ _ ⟨(blk_cell BK191.out 0).trans rfl, (blk_cell BK191.out 1).trans rfl⟩ (fun hHeld => ?_)
 clear hK K
 refine nm 9 ?_
 refine on 5 (some 10) (bm 7 63) (fun K hK => ?_)
 refine gs Try.func83 #[.int .i64 a1, .int .i64 a0_0, .int .i64 t192] ?_
 with_reducible refine (impl_in.calls a1 a0_0 t192 t193 _ A4.out).mono ?_
 rintro e w' ⟨rfl, ⟨nd, rfl⟩⟩
 refine ⟨_, rfl, ?_⟩
 refine hK.out _ _ ⟨(blk_cell BK191.out 0).trans rfl, (blk_cell BK191.out 1).trans rfl⟩ (fun hHeld => ?_)
 clear hK K
 refine nm 10 ?_
 refine pu 6 4 (bm 7 127) ?_
 refine done_ (by kernel_rfl) ?_
 try go_wp2
 go_ret
 exact ⟨zz8, zz6 GE191⟩
def impl_SetHas.f (k : Nat) (l0 : List S40) (a1 : Int) : Option (Bool) := (impl_SetOk.f k l0).bind fun t => if t = true then (if l0.all (fun b => (impl_Block_has.f b.f0 b.f1 a1).isSome) = true then some (l0.any fun b => (impl_Block_has.f b.f0 b.f1 a1) == some true) else none) else some false
def impl_SetHas.enc (x : S40) : List Value := [.int .i64 x.f0, .int .i64 x.f1]
set_option maxHeartbeats 1000000 in
theorem impl_SetHas.pred (a : Int) (B : Nat) (w : World) (hB : B < w.heap.size) (hcell : w.cell? ⟨B, 0, none⟩ = some (.int .i64 a)) :
  PredBelow Try.prog 56 #[.pointer (some ⟨B, 0, none⟩)] (fun x : { x : S40 // (impl_Block_has.f x.f0 x.f1 a).isSome = true } => .agg (impl_SetHas.enc x.1).toArray) (fun x => (impl_Block_has.f x.1.f0 x.1.f1 a) == some true) w := fun W x hb => by
 obtain ⟨x, hx⟩ := x
 obtain ⟨t, ht⟩ := Option.isSome_iff_exists.1 hx
 have hc : W.cell? ⟨B, 0, none⟩ = some (.int .i64 a) := (hb.cell (p := ⟨B, 0, none⟩) hB).trans hcell
 have hBW : B < W.heap.size := Nat.lt_of_lt_of_le hB hb.size
 have hu := Try.underlying40
 have hcon := fun W' => impl_Block_has.calls x.f0 x.f1 a t W' ht
 show Calls Try.prog 56 #[.agg #[.int .i64 x.f0, .int .i64 x.f1], .pointer (some ⟨B, 0, none⟩)] W _
 have hne : B ≠ W.heap.size := by omega
 simp only [ht]
 clear ht hx
 go_enter Try.func56, Try.ntmps56
 go_wp2_with (go_at_call 57; refine (hcon _).mono ?_; rintro e w' ⟨rfl, hb2⟩)
 go_ret
 exact ⟨by cases t <;> rfl, (hb.alloc hb.size _).trans (hb2.mono (by have := hb.size; simp; omega))⟩
theorem impl_SetHas.idx0 (A : Option Addr) (c : Nat) (fv : Value) (w : World) : Calls Try.prog 92 #[.slice A 0 c, fv] w fun e w' => e = .returned (.int .i64 (-1)) ∧ w' = w := by
 go_enter Try.func92, Try.ntmps92
 go_wp2
 go_loop [8] (fun i => i = .int .i64 0) (fun _ => 0)
 case atStart => rfl
 case round =>
  obtain rfl := hrel
  go_wp2
  go_ret
  exact ⟨rfl, rfl⟩
theorem impl_SetHas.has0 (A : Option Addr) (c : Nat) (fv : Value) (w : World) : Calls Try.prog 55 #[.slice A 0 c, fv] w fun e w' => e = .returned (.bool false) ∧ w' = w := by
 go_enter Try.func55, Try.ntmps55
 go_wp2_with (go_at_call 92; refine (impl_SetHas.idx0 _ _ _ _).mono ?_; rintro e w' ⟨rfl, rfl⟩)
 go_ret
 exact ⟨rfl, rfl⟩
instance impl_SetHas.inh (a : Int) : Inhabited { x : S40 // (impl_Block_has.f x.f0 x.f1 a).isSome = true } := ⟨⟨⟨0, 32⟩, by
 have e : wrap64 (32 - 32) = 0 := by unfold wrap64; omega
 simp only [impl_Block_has.f, impl_Block_last.f, impl_Block_size.f, impl_in.f, e, Int.le_refl, if_true, Option.bind_some]
 split <;> rfl⟩⟩
set_option maxHeartbeats 1000000 in
theorem impl_SetHas.hasAny (a : Int) (l0 : List S40) (A0 : Option Addr) (c0 B : Nat) (w : World) (hr0 : Kd.C k40 w A0 l0.length l0) (hB : B < w.heap.size) (hcell : w.cell? ⟨B, 0, none⟩ = some (.int .i64 a)) (hall : l0.all (fun b => (impl_Block_has.f b.f0 b.f1 a).isSome) = true) :
  Calls Try.prog 55 #[.slice A0 l0.length c0, .func (.func 56) #[] #[.pointer (some ⟨B, 0, none⟩)]] w fun e w' => e = .returned (.bool (l0.any fun b => (impl_Block_has.f b.f0 b.f1 a) == some true)) ∧ Below w.heap.size w w' := by
 by_cases h0 : l0 = []
 ·subst h0
  refine (impl_SetHas.has0 A0 c0 _ w).mono ?_
  rintro e w' ⟨rfl, rfl⟩
  exact ⟨rfl, Below.refl _ _⟩
 ·have hp : 0 < l0.length := List.length_pos_iff.2 h0
  obtain ⟨ad, rfl, hc, _⟩ := at_T40 hr0 0 (by omega) (by omega)
  have hbl := World.block_lt_of_cell? _ _ hc
  obtain ⟨b, o, sp⟩ := ad
  have hsp : sp = none := by
   cases sp with
   | none => rfl
   | some x =>
    rw [show ((⟨b, o, some x⟩ : Addr).add ((0 : Int).toNat * 2)) = ⟨b, o, some x⟩ from rfl] at hc
    unfold World.cell? at hc
    split at hc <;> simp at hc
  subst hsp
  have hmem : ∀ x ∈ l0, (impl_Block_has.f x.f0 x.f1 a).isSome = true := fun x hx => List.all_eq_true.1 hall x hx
  have hbig := hr0.2.1
  have eg : ∀ args w, (callFunc 56 args).run Try.prog w = .ok (.enter 56 args) w := enters_of Try.func56 (by kernel_rfl) rfl
  have hcon := AnyQ.slices_ContainsFunc Try.laysHas 2 Try.isAgg40 Try.sizeOf40 (fun x : { x : S40 // (impl_Block_has.f x.f0 x.f1 a).isSome = true } => impl_SetHas.enc x.1) (fun _ => rfl) (fun x => (impl_Block_has.f x.1.f0 x.1.f1 a) == some true) 56 #[.pointer (some ⟨B, 0, none⟩)] eg b o l0.length c0 (l0.pmap (fun x h => ⟨x, h⟩) hmem) w
   (impl_SetHas.pred a B w hB hcell) (by simp) hbig hbl (fun j hj i v hi => by
    simp only [List.length_pmap] at hj
    obtain ⟨ad, e, h1, h2⟩ := at_T40 hr0 (j : Int) (by omega) (by omega)
    cases e
    have ee : ((l0.pmap (fun x h => (⟨x, h⟩ : { x : S40 // (impl_Block_has.f x.f0 x.f1 a).isSome = true })) hmem)[j]!).1 = rd_T40 l0 (j : Int) := by
     rw [getElem!_pos _ j (by simpa using hj), List.getElem_pmap]; simp [rd_T40, hj]
    have ea : (⟨b, o, none⟩ : Addr).add ((j : Int).toNat * 2) = ⟨b, o + j * 2, none⟩ := by
     unfold Addr.add; split
     ·rename_i h; simp at h; simp [h]
     ·simp
    rw [ea] at h1 h2
    simp only [ee, impl_SetHas.enc] at hi
    match i, hi with
    | 0, hi => simp at hi; rw [← hi]; exact h1
    | 1, hi => simp at hi; rw [← hi]; exact h2
    | i + 2, hi => simp at hi)
  change Calls Try.prog 55 _ _ _ at hcon
  refine hcon.mono ?_
  rintro e w' ⟨rfl, hb⟩
  refine ⟨?_, hb⟩
  rw [List.take_of_length_le (by simp)]
  congr 2
  have h2 := List.any_map (l := l0.pmap (fun x h => (⟨x, h⟩ : { x : S40 // (impl_Block_has.f x.f0 x.f1 a).isSome = true })) hmem) (f := fun x => x.1) (p := fun b : S40 => (impl_Block_has.f b.f0 b.f1 a) == some true)
  rw [List.map_pmap] at h2
  simp only [List.pmap_eq_map, List.map_id'] at h2
  exact h2.symm
set_option maxHeartbeats 2000000 in
theorem impl_SetHas.calls (k : Nat) (A0 : Option Addr) (c0 : Nat) (l0 : List S40) (a1 : Int) (r : Bool) (w : World) (hr0 : Kd.C k40 w A0 l0.length l0) (hc0 : l0.length ≤ c0) (h : impl_SetHas.f k l0 a1 = some r) :
  Calls Try.prog 15 #[.slice A0 l0.length c0, .int .i64 a1] w fun e w' => e = .returned (.bool r) ∧ Below w.heap.size w w' := by
 unfold impl_SetHas.f at h
 obtain ⟨t, ht, h⟩ := Option.bind_eq_some_iff.1 h
 have hB0 : Below w.heap.size w (w.alloc (.cells #[.int .i64 a1] 3)) := (Below.refl _ w).alloc (Nat.le_refl _) _
 have hr1 : Kd.C k40 (w.alloc (.cells #[.int .i64 a1] 3)) A0 l0.length l0 := Kd.C_below hr0 hB0
 have hcon := impl_SetOk.calls k A0 c0 l0 t (w.alloc (.cells #[.int .i64 a1] 3)) hr1 hc0 ht
 have hcz : (w.alloc (.cells #[.int .i64 a1] 3)).cell? ⟨w.heap.size, 0, none⟩ = some (.int .i64 a1) := (Boxed.new w 3 (.int .i64 a1)).cell
 have hsz : (w.alloc (.cells #[.int .i64 a1] 3)).heap.size = w.heap.size + 1 := by simp
 cases t with
 | false =>
  rw [if_neg (by simp)] at h
  obtain rfl := Option.some.inj h
  have HR := Aside0.mk hr0
  have HR1 := Aside0.mk hr1
  clear hr0 hr1 ht hcz hsz
  go_enter Try.func15, Try.ntmps15
  go_wp2_with (go_at_call 13; refine hcon.mono ?_; rintro e w' ⟨rfl, hb⟩)
  go_ret
  exact ⟨rfl, hB0.trans (hb.mono (by simp))⟩
 | true =>
  rw [if_pos rfl] at h
  split at h
  ·rename_i hall
   obtain rfl := Option.some.inj h
   have hany := fun w1 (hb : Below (w.alloc (.cells #[.int .i64 a1] 3)).heap.size (w.alloc (.cells #[.int .i64 a1] 3)) w1) => impl_SetHas.hasAny a1 l0 A0 c0 w.heap.size w1 (Kd.C_below hr1 hb) (by have := hb.size; omega) ((hb.cell (p := ⟨w.heap.size, 0, none⟩) (by simp)).trans hcz) hall
   have HR := Aside0.mk hr0
   have HR1 := Aside0.mk hr1
   have HA := Aside0.mk hall
   clear hr0 hr1 ht hcz hsz hall h
   generalize (l0.any fun b => (impl_Block_has.f b.f0 b.f1 a1) == some true) = q at hany ⊢
   go_enter Try.func15, Try.ntmps15
   go_wp2_with (first | (go_at_call 13; refine hcon.mono ?_; rintro e w1 ⟨rfl, hb⟩) | (go_at_call 55; refine (hany _ hb).mono ?_; rintro e w' ⟨rfl, hb2⟩))
   go_ret
   exact ⟨rfl, hB0.trans ((hb.mono (by simp)).trans (hb2.mono (by have := hb.size; simp at this; omega)))⟩
  ·cases h
def IsS103 (w0 W : World) (g : Nat) (f0 : List Int) (f1 : Int) : Prop := ∃ A0 c0, W.heap[g]? = some (.cells #[.slice A0 f0.length c0, .int .i64 f1] 103 (0, 0)) ∧ w0.heap.size ≤ g ∧ Kd.C (Kd.int .u8) w0 A0 f0.length f0
theorem IsS103.grown {w0 W : World} {g : Nat} {f0 : List Int} {f1 : Int} {W1 : World} {row : Option Nat} (h : IsS103 w0 W g f0 f1) (hw : W.grownBy W1 row) (hne : some g ≠ row) : IsS103 w0 W1 g f0 f1 := by
 obtain ⟨A0, c0, hb, hg, hr0⟩ := h
 exact ⟨A0, c0, blk_grown hb hw hne, hg, hr0⟩
theorem IsS103.below {w0 W : World} {g : Nat} {f0 : List Int} {f1 : Int} {W1 : World} (h : IsS103 w0 W g f0 f1) (hw : Below W.heap.size W W1) : IsS103 w0 W1 g f0 f1 := h.grown (grown_of_below hw none) (by simp)
theorem IsS103.drewN {w0 W : World} {g : Nat} {f0 : List Int} {f1 : Int} (h : IsS103 w0 W g f0 f1) (m : Nat) : IsS103 w0 (W.drewN m) g f0 f1 := h
theorem IsS103.drew {w0 W : World} {g : Nat} {f0 : List Int} {f1 : Int} (h : IsS103 w0 W g f0 f1) : IsS103 w0 W.drew g f0 f1 := h
theorem IsS103.apart {w0 W : World} {g : Nat} {f0 : List Int} {f1 : Int} {α : Type} {d : Kd α} {e : Nat} {base : Nat} {ok : Nat → Prop} {v : Value} {xs : List α} (h : IsS103 w0 W g f0 f1) (ho : d.R e W base ok v xs) (ht : ∀ q, q ∈ e :: d.E → q ≠ 103) : d.R e W base (fun k => ok k ∧ k ≠ g) v xs := by
 obtain ⟨A0, c0, hb, hg, hr0⟩ := h
 exact Kd.R_types ho hb ht
theorem IsS103.own_ne {w0 W : World} {g : Nat} {f0 : List Int} {f1 : Int} {α : Type} {d : Kd α} {e : Nat} {base : Nat} {ok : Nat → Prop} {v : Value} {xs : List α} (h : IsS103 w0 W g f0 f1) (ho : d.R e W base ok v xs) (ht : e ≠ 103) : some g ≠ v.ownBlock := by
 obtain ⟨A0, c0, hb, hg, hr0⟩ := h
 exact Kd.R_ne ho hb ht
theorem IsS103.lt {w0 W : World} {g : Nat} {f0 : List Int} {f1 : Int} (h : IsS103 w0 W g f0 f1) : g < W.heap.size := by
 obtain ⟨A0, c0, hb, hg, hr0⟩ := h
 exact blk_lt hb
theorem IsS103.ge {w0 W : World} {g : Nat} {f0 : List Int} {f1 : Int} (h : IsS103 w0 W g f0 f1) : w0.heap.size ≤ g := by
 obtain ⟨A0, c0, hb, hg, hr0⟩ := h
 exact hg
theorem IsS103.far {w0 W : World} {g : Nat} {f0 : List Int} {f1 : Int} {p : Addr} (h : IsS103 w0 W g f0 f1) (hne : g ≠ p.block) (u : Value) : IsS103 w0 (W.setCell p u) g f0 f1 := by
 obtain ⟨A0, c0, hb, hg, hr0⟩ := h
 exact ⟨A0, c0, blk_far hb hne u, hg, hr0⟩
theorem cellS103_0 {W : World} {g : Nat} {A0 : Option Addr} {c0 : Nat} {f0 : List Int} {f1 : Int} (h : W.heap[g]? = some (.cells #[.slice A0 f0.length c0, .int .i64 f1] 103 (0, 0))) : W.cell? ⟨g, 0, none⟩ = some (.slice A0 f0.length c0) := (blk_cell h 0).trans rfl
theorem cellS103_1 {W : World} {g : Nat} {A0 : Option Addr} {c0 : Nat} {f0 : List Int} {f1 : Int} (h : W.heap[g]? = some (.cells #[.slice A0 f0.length c0, .int .i64 f1] 103 (0, 0))) : W.cell? ⟨g, 1, none⟩ = some (.int .i64 f1) := (blk_cell h 1).trans rfl
theorem IsS103.set_1 {w0 W : World} {g : Nat} {f0 : List Int} {f1 : Int} (h : IsS103 w0 W g f0 f1) (x : Int) : IsS103 w0 (W.setCell ⟨g, 1, none⟩ (.int .i64 x)) g f0 x := by
 obtain ⟨A0, c0, hb, hg, hr0⟩ := h
 exact ⟨A0, c0, by simpa using blk_set hb 1 (.int .i64 x), hg, hr0⟩
def spec_l1Open.f (l0 : List Int) : Option (List Int × Int) := if (l0.length : Int) > 2000 then (if 2000 ≤ (l0.length : Int) then (some (l0.take 2000, 0)) else (none)) else (some (l0, 0))
set_option maxHeartbeats 8000000 in
set_option maxRecDepth 100000 in
theorem spec_l1Open.calls (A0 : Option Addr) (c0 : Nat) (l0 : List Int) (r1 : List Int) (r2 : Int) (w0 w : World) (hB : Below w0.heap.size w0 w) (hr0 : Kd.C (Kd.int .u8) w0 A0 l0.length l0) (hc0 : l0.length ≤ c0) (h : spec_l1Open.f l0 = some (r1, r2)) :
  Calls Try.prog 42 #[.slice A0 l0.length c0] w fun e w' => ∃ g_ : Nat, e = .returned (.pointer (some ⟨g_, 0, none⟩)) ∧ IsS103 w0 w' g_ r1 r2 ∧ Below w0.heap.size w0 w' ∧ Below w.heap.size w w' := by
 have hu103 := Try.underlying103
 have HR0 := Aside0.mk hr0
 have HC0 := Aside0.mk hc0
 clear hr0 hc0
 have HBW := Aside0.mk (Below.refl w.heap.size w)
 have HW0 := Aside0.mk hB.size
 have HB := Aside0.mk hB
 clear hB
 have H : (if (l0.length : Int) > 2000 then (if 2000 ≤ (l0.length : Int) then (some (l0.take 2000, 0)) else (none)) else (some (l0, 0))) = some (r1, r2) := h
 clear h
 by_cases c2 : (l0.length : Int) > 2000
 ·rw [if_pos c2] at H
  have c2b0 : decide (2000 < (l0.length : Int)) = true := decide_eq_true c2
  have c2b1 : decide (2000 < l0.length) = true := decide_eq_true (by omega)
  clear c2
  replace H := gp H
  obtain ⟨c3, H⟩ := H
  have c3b0 := eq_true c3
  have c3b1 : decide (2000 ≤ (l0.length : Int)) = true := decide_eq_true c3
  clear c3
  simp only [Option.some.injEq, Prod.mk.injEq] at H
  obtain ⟨rfl, rfl⟩ := H
  obtain ⟨i04, hi04, _, hsz4, _⟩ := info_parts info5
  obtain ⟨hcut4, hA4, hC4⟩ := print_take_of (P := Try.prog) (Value.int .u8) 0 22 5 .i64 Try.underlying22 hi04 hsz4 A0 c0 l0 2000 (by omega) (of_decide_eq_true zz10) HC0.out
  have HR194 := Aside0.mk (Kd.C_of_reads (h1 := fun _ => rfl) (hA4 _ (Kd.reads_of_C HR0.out)))
  have HC194 := Aside0.mk hC4
  clear hA4 hC4 hi04 hsz4
  go_enter Try.func42, Try.ntmps42
  go_wp2_with (first | (refine be 10 #[.slice A0 (l0.take 2000).length c0, .int .i64 0] 103 ?_; intro gb195 hg w5 hbox hb; replace HB := Aside0.mk (below_step zz5 hb); have BK195 := Aside0.mk hbox; have GW195 := Aside0.mk (zz24 : w.heap.size ≤ gb195); have GE195 := Aside0.mk (Nat.le_trans HW0.out (zz24 : w.heap.size ≤ gb195) : w0.heap.size ≤ gb195); replace HBW := Aside0.mk (below_step HBW.out hb); clear hb hbox hg))
  go_ret
  exact ⟨_, rfl, (show IsS103 w0 _ gb195 (l0.take 2000) 0 from ⟨_, _, zz7 BK195, GE195.out, HR194.out⟩), zz6 GE195, zz25 GW195⟩
 ·rw [if_neg c2] at H
  have c2b0 : decide (2000 < (l0.length : Int)) = false := decide_eq_false c2
  have c2b1 : decide (2000 < l0.length) = false := decide_eq_false (by omega)
  clear c2
  simp only [Option.some.injEq, Prod.mk.injEq] at H
  obtain ⟨rfl, rfl⟩ := H
  go_enter Try.func42, Try.ntmps42
  go_wp2_with (first | (refine be 10 #[.slice A0 l0.length c0, .int .i64 0] 103 ?_; intro gb196 hg w6 hbox hb; replace HB := Aside0.mk (below_step zz5 hb); have BK196 := Aside0.mk hbox; have GW196 := Aside0.mk (zz24 : w.heap.size ≤ gb196); have GE196 := Aside0.mk (Nat.le_trans HW0.out (zz24 : w.heap.size ≤ gb196) : w0.heap.size ≤ gb196); replace HBW := Aside0.mk (below_step HBW.out hb); clear hb hbox hg))
  go_ret
  exact ⟨_, rfl, (show IsS103 w0 _ gb196 l0 0 from ⟨_, _, zz7 BK196, GE196.out, HR0.out⟩), zz6 GE196, zz25 GW196⟩
end Go.Proofs.Ythkjkmgbdahggaa.PL
