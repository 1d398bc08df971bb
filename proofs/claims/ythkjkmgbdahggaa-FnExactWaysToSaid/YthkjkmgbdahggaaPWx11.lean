/- A text printed by this session's wip/myprint.py over the kit's print: contracts of functions of the given program, each at what its Lean function says. -/
import Derived.Test.YthkjkmgbdahggaaPWx0
import Derived.Test.YthkjkmgbdahggaaPWx7
import Derived.Test.YthkjkmgbdahggaaPWx8
import Derived.Test.YthkjkmgbdahggaaPWx10
namespace Go.Proofs.Ythkjkmgbdahggaa.PW
open Go.RowKit Go.Proofs.YthkjkmgbdahggaaW.PrintWords Go.Proofs.YthkjkmgbdahggaaW.PrintLast Go.Proofs.YthkjkmgbdahggaaW.PrintMore Go.Proofs.Ythkjkmgbdahggaa.Sq
attribute [local go_sem] max2_int min2_int max_two min_two max_three min_three max_four min_four   -- for this text's walks alone
set_option linter.unusedVariables false
set_option linter.unusedSimpArgs false

/-! ### impl_set: function 52 -/
def impl_set.l0 : Nat → List (S40) → List (S68) → Int → Int → Option ((List (S40)))
 | 0, _, _, _, _ => none
 | k + 1, x3, x7, x8, x9 => if x9 < x8 then (if 0 ≤ x9 then (if x9 < (x7.length : Int) then ((impl_span_blocks.f k ((rd_T68 x7 x9).f0) ((rd_T68 x7 x9).f1)).bind fun t326 => (if x3.length + t326.length < 8796093022208 then (impl_set.l0 k (x3 ++ t326) x7 x8 (wrap64 (x9 + 1))) else (none))) else (none)) else (none)) else (some x3)
def impl_set.f (k : Nat) (l0 : List (S68)) : Option ((List (S40))) := (impl_union.f k l0).bind fun t321 => (impl_set.l0 k ([] : List (S40)) t321 (t321.length : Int) 0)
theorem impl_set.mono_l : ∀ k, (∀ y0 y1 y2 y3, LeO (impl_set.l0 k y0 y1 y2 y3) (impl_set.l0 (k + 1) y0 y1 y2 y3))
 | 0 => fun _ _ _ _ r h => by simp [impl_set.l0] at h
 | k + 1 => by
  have ih0 := impl_set.mono_l k
  ·intro y0 y1 y2 y3
   unfold impl_set.l0
   repeat' first
   | (with_reducible exact ih0 _ _ _ _)
   | (with_reducible exact impl_span_blocks.mono _ _ _)
   | (with_reducible exact impl_union.mono _ _)
   | (with_reducible exact LeO.refl _)
   | (with_reducible exact LeO.none _)
   | (with_reducible refine LeO.ite ?_ ?_)
   | (with_reducible refine LeO.bind ?_ (fun _ => ?_))
   | exact ih0 _ _ _ _
   | exact impl_span_blocks.mono _ _ _
   | exact impl_union.mono _ _
   | exact LeO.none _
   | refine LeO.ite ?_ ?_
   | refine LeO.bind ?_ (fun _ => ?_)
theorem impl_set.mono : ∀ a0 k, LeO (impl_set.f k a0) (impl_set.f (k + 1) a0) := by
 intro a0 k
 have ih0 := impl_set.mono_l k
 unfold impl_set.f
 repeat' first
   | (with_reducible exact ih0 _ _ _ _)
   | (with_reducible exact impl_span_blocks.mono _ _ _)
   | (with_reducible exact impl_union.mono _ _)
   | (with_reducible exact LeO.refl _)
   | (with_reducible exact LeO.none _)
   | (with_reducible refine LeO.ite ?_ ?_)
   | (with_reducible refine LeO.bind ?_ (fun _ => ?_))
   | exact ih0 _ _ _ _
   | exact impl_span_blocks.mono _ _ _
   | exact impl_union.mono _ _
   | exact LeO.none _
   | refine LeO.ite ?_ ?_
   | refine LeO.bind ?_ (fun _ => ?_)
set_option maxHeartbeats 8000000 in
set_option maxRecDepth 100000 in
theorem impl_set.calls (k : Nat) (A0 : Option Addr) (c0 : Nat) (l0 : List (S68)) (r : List (S40)) (w : World) (hr0 : Kd.C k68 w A0 l0.length l0) (hc0 : l0.length ≤ c0) (h : impl_set.f k l0 = some r) :
  Calls Try.prog 52 #[.slice A0 l0.length c0] w fun e w' => ∃ v0_ : Value, e = .returned (v0_) ∧ Kd.R k40 40 w' w.heap.size (fun _ => True) v0_ r ∧ Below w.heap.size w w' := by
 have hu68 := Try.underlying68
 have HR0 := Aside0.mk hr0
 have HC0 := Aside0.mk hc0
 clear hr0 hc0
 have HB := Aside0.mk (Below.refl w.heap.size w)
 have H : ((impl_union.f k l0).bind fun t321 => (impl_set.l0 k ([] : List (S40)) t321 (t321.length : Int) 0)) = some r := h
 clear h
 replace H := bd H
 obtain ⟨t321, A2, H⟩ := H
 replace H : (impl_set.l0 k ([] : List (S40)) t321 (t321.length : Int) 0) = some r := H
 have H' := Aside0.mk H
 clear H
 go_enter Try.func52, Try.ntmps52
 go_wp2_with (first | (refine gc (some 7) Try.func76 #[.slice A0 l0.length c0] ?_; (with_reducible refine (impl_union.calls k _ _ l0 t321 _ ?side1 ?side2 A2.out).mono ?_); (case side1 => exact zz46 HR0); (case side2 => exact HC0.out); rintro e w3 ⟨v322, rfl, ho0, hb⟩; refine ⟨_, rfl, ?_⟩; have HO323 := Aside0.mk (Kd.R_lower ho0 (below_size zz2)); replace HB := Aside0.mk (below_step zz2 hb); clear hb ho0; obtain ⟨Ao4, co4, eo4⟩ := Kd.R_slice HO323.out; subst eo4))
 go_loopg [3, 9] k (fun kq v3 v9 w' => ∃ (x3_1 : List (S40)) (x9_1 : Int), v9 = .int .i64 x9_1 ∧ Aside0 (impl_set.l0 kq x3_1 t321 (t321.length : Int) x9_1 = some r) ∧ Aside0 (kq ≤ k) ∧ Aside0 (Kd.R k40 40 w' w.heap.size (fun _ => True) v3 x3_1) ∧ Aside0 (Kd.R k68 68 w' w.heap.size (fun _ => True) (.slice Ao4 t321.length co4) t321) ∧ Aside0 (Below w.heap.size w w'))
 case atStart => exact ⟨(([] : List (S40))), (0), zz8, H', ⟨Nat.le_refl _⟩, ⟨zz45⟩, ⟨zz13 HO323⟩, ⟨zz2⟩⟩
 case round =>
  clear H'
  try clear p2
  obtain ⟨x3_1, x9_1, rfl, HA, HK1, HO_3, HO_7, HB⟩ := hrel
  cases gk with
  | zero => exact absurd HA.out (by simp [impl_set.l0])
  | succ k1 =>
   have H := HA.out
   clear HA
   simp only [impl_set.l0] at H
   replace H := ic H
   rcases H with ⟨c5b0, H⟩ | ⟨c5b0, H⟩
   ·replace H := gd H
    obtain ⟨c6b0, H⟩ := H
    replace H := gd H
    obtain ⟨c7b0, H⟩ := H
    replace H := bd H
    obtain ⟨t326, A8, H⟩ := H
    replace H : (if x3_1.length + t326.length < 8796093022208 then (impl_set.l0 k1 (x3_1 ++ t326) t321 (t321.length : Int) (wrap64 (x9_1 + 1))) else (none)) = some r := H
    replace H := gp H
    obtain ⟨c9, H⟩ := H
    have LMc9 := Aside0.mk c9
    clear c9
    obtain ⟨y329, hy329⟩ : ∃ y_ : List (S40), y_ = (x3_1 ++ t326) := ⟨_, rfl⟩
    replace H : (impl_set.l0 k1 y329 t321 (t321.length : Int) (wrap64 (x9_1 + 1))) = some r := by first | (rw [hy329]; with_reducible exact H) | (have H2_ := (Option.bind_some _ _).symm.trans H; rw [hy329]; with_reducible exact H2_) | (have H2_ := (Option.bind_some _ _).symm.trans H; with_reducible exact H2_) | with_reducible exact H | (rw [hy329]; exact H) | exact H
    have Ny329 := Aside0.mk hy329
    clear hy329
    have H' := Aside0.mk H
    clear H
    obtain ⟨⟨ad324, e324, hx324_0, hx324_1⟩, p324, q324⟩ := wi (at_T68 (Kd.R_reads' HO_7.out).2.2 x9_1)
    cases e324
    go_wp2_with (first | (refine be 5 #[.int .i64 0, .int .i64 0] 68 ?_; intro gb325 hg w10 hbox hb; replace HO_3 := Aside0.mk (Kd.R_below (zz13 HO_3) hb); replace HO_7 := Aside0.mk (Kd.R_below (Kd.R_elderB (zz13 HO_7) gb325 (Nat.le_of_eq hg.symm)) hb); have BK325 := Aside0.mk hbox; have GW325 := Aside0.mk (zz1 : w.heap.size ≤ gb325); have GE325 := Aside0.mk (zz1 : w.heap.size ≤ gb325); replace HB := Aside0.mk (below_step zz2 hb); clear hb hbox hg; have hcz11_0 : w10.cell? ⟨gb325, 0, none⟩ = some (.int .i64 0) := (blk_cell BK325.out 0).trans rfl; have hcz11_1 : w10.cell? ⟨gb325, 1, none⟩ = some (.int .i64 0) := (blk_cell BK325.out 1).trans rfl; have hfz11_0 := blk_frozen BK325.out 0; have hfz11_1 := blk_frozen BK325.out 1) | (refine gc (some 15) Try.func47 #[.agg #[.int .i64 ((rd_T68 t321 x9_1).f0), .int .i64 ((rd_T68 t321 x9_1).f1)]] ?_; (with_reducible refine (impl_span_blocks.calls k1 ((rd_T68 t321 x9_1).f0) ((rd_T68 t321 x9_1).f1) t326 _ A8.out).mono ?_); rintro e w12 ⟨v327, rfl, ho0, hb⟩; refine ⟨_, rfl, ?_⟩; replace HO_7 := Aside0.mk (Kd.R_below (by (with_reducible repeat (first | apply Kd.R_alloc | apply Kd.R_drewN | apply Kd.R_drew)); exact (Kd.R_mono (Kd.R_far (p := ⟨gb325, 1, none⟩) (Kd.R_far (p := ⟨gb325, 0, none⟩) (Kd.R_mono HO_7.out (fun k_ hk => (⟨hk, hk.2⟩ : _ ∧ k_ ≠ gb325))) (fun _ hk => hk.2) (.int .i64 ((rd_T68 t321 x9_1).f0))) (fun _ hk => hk.2) (.int .i64 ((rd_T68 t321 x9_1).f1))) (fun _ h_ => h_.1))) hb); have HO328 := Aside0.mk (Kd.R_lower (Kd.R_new' ho0 (Kd.R_lt (by (with_reducible repeat (first | apply Kd.R_alloc | apply Kd.R_drewN | apply Kd.R_drew)); exact (Kd.R_mono (Kd.R_far (p := ⟨gb325, 1, none⟩) (Kd.R_far (p := ⟨gb325, 0, none⟩) (Kd.R_types HO_3.out BK325.out (by decide)) (fun _ hk => hk.2) (.int .i64 ((rd_T68 t321 x9_1).f0))) (fun _ hk => hk.2) (.int .i64 ((rd_T68 t321 x9_1).f1))) (fun _ h_ => h_.1))))) (below_size (zz4 GE325))); replace HO_3 := Aside0.mk (Kd.R_elder' (by (with_reducible repeat (first | apply Kd.R_alloc | apply Kd.R_drewN | apply Kd.R_drew)); exact (Kd.R_mono (Kd.R_far (p := ⟨gb325, 1, none⟩) (Kd.R_far (p := ⟨gb325, 0, none⟩) (Kd.R_types HO_3.out BK325.out (by decide)) (fun _ hk => hk.2) (.int .i64 ((rd_T68 t321 x9_1).f0))) (fun _ hk => hk.2) (.int .i64 ((rd_T68 t321 x9_1).f1))) (fun _ h_ => h_.1))) (Kd.R_base ho0) hb); replace BK325 := Aside0.mk (blk_below (g := gb325) (o := .cells #[.int .i64 ((rd_T68 t321 x9_1).f0), .int .i64 ((rd_T68 t321 x9_1).f1)] 68 (0, 0)) (by (with_reducible repeat (first | refine blk_drewN ?_ _ | refine blk_drew ?_ | refine blk_alloc ?_ _)); refine blk_put (cs := #[.int .i64 ((rd_T68 t321 x9_1).f0), .int .i64 0]) ?_ 1 _ rfl; (with_reducible repeat (first | refine blk_drewN ?_ _ | refine blk_drew ?_ | refine blk_alloc ?_ _)); refine blk_put (cs := #[.int .i64 0, .int .i64 0]) ?_ 0 _ rfl; (with_reducible repeat (first | refine blk_drewN ?_ _ | refine blk_drew ?_ | refine blk_alloc ?_ _)); exact BK325.out) hb); replace HB := Aside0.mk (below_step (zz4 GE325) hb); clear hb ho0; obtain ⟨Ao14, co14, eo14⟩ := Kd.R_slice HO328.out; subst eo14) | ((with_reducible refine gate_builtin (b := .append) (xs := #[.tmp 13, .tmp 15]) rfl ?_); at_builtin; refine Kd.R_append_rows k40 (w0 := w) w.heap.size rfl (.tmp 13) (.tmp 15) 25 40 (.agg #[(.int .i64 0), (.int .i64 0)]) 16 rfl Try.underlying25 info40 rfl (by decide) (by omega) u3 x3_1 t326 _ _ _ (fun k_ => some k_ ≠ (.slice Ao14 t326.length co14 : Value).ownBlock) (fun _ => False) rfl rfl ?aO ?aR (fun _ _ h => h) (fun _ h => h.elim) ?aF ?aB ?aS ?aL ?_; (case aR => exact zz33 HO328); (case aB => exact zz4 GE325); (case aF => exact (fun k_ hk => Kd.fresh' (Kd.R_lt (zz13 HO328)) k_ hk)); (case aO => exact zz48 HO_3); (case aS => exact zz15 GE325); (case aL => exact zz9 LMc9); intro v330 w13 ho hb hg hat; rw [← Ny329.out] at ho; replace HO_7 := Aside0.mk (Kd.R_over' (zz13 HO_7) (Kd.R_typed (zz13 HO_3)) (by decide) hg); replace BK325 := Aside0.mk (blk_grown (g := gb325) (o := .cells #[.int .i64 ((rd_T68 t321 x9_1).f0), .int .i64 ((rd_T68 t321 x9_1).f1)] 68 (0, 0)) (zz5 BK325) hg (Kd.R_ne HO_3.out BK325.out (by decide))); replace HO328 := Aside0.mk (Kd.R_after (ok := (fun _ => True)) (zz13 HO328) hg hat); replace HB := Aside0.mk hb; have HO331 := Aside0.mk ho; clear HO_3 ho hb hg hat))
    go_roundg k1
    case measure => have := HK1.out; omega
    case rel => exact ⟨(y329), (wrap64 (x9_1 + 1)), zz8, H', ⟨zz9 HK1⟩, ⟨zz17 HO331⟩, ⟨zz17 HO_7⟩, ⟨zz4 GE325⟩⟩
   ·obtain rfl := Option.some.inj H
    go_wp2
    go_ret
    exact ⟨_, zz6, zz13 HO_3, zz2⟩

/-! ### impl_limited: function 64 -/
def impl_limited.f (l0 : List (S40)) : Option ((List (S40)) × Bool) := if (l0.length : Int) > 64 then (some (([] : List (S40)), false)) else (some (l0, true))
set_option maxHeartbeats 8000000 in
set_option maxRecDepth 100000 in
theorem impl_limited.calls (P0_ : Nat → Prop) (u9000_ : Value) (l0 : List (S40)) (r1 : List (S40)) (r2 : Bool) (w0 w : World) (hB : Below w0.heap.size w0 w) (ho0 : Kd.R k40 40 w w0.heap.size P0_ u9000_ l0) (h : impl_limited.f l0 = some (r1, r2)) :
  Calls Try.prog 64 #[u9000_] w fun e w' => ∃ v0_ : Value, e = .returned (.tuple #[v0_, .bool r2]) ∧ Kd.R k40 40 w' w0.heap.size (fun k_ => (P0_ k_ ∨ w.heap.size ≤ k_)) v0_ r1 ∧ Below w0.heap.size w0 w' ∧ Kept w w' (fun k_ => P0_ k_) := by
 have HO0 := Aside0.mk (show Kd.R k40 40 w w0.heap.size (fun k_ => (P0_ k_ ∨ w.heap.size ≤ k_)) u9000_ l0 from Kd.R_mono ho0 (fun k_ hk => (.inl hk)))
 have HK := Aside0.mk (Kept.refl w (fun k_ => P0_ k_))
 have HW0 := Aside0.mk hB.size
 have HB := Aside0.mk hB
 clear hB
 have H : (if (l0.length : Int) > 64 then (some (([] : List (S40)), false)) else (some (l0, true))) = some (r1, r2) := h
 clear h
 by_cases c2 : (l0.length : Int) > 64
 ·rw [if_pos c2] at H
  have c2b0 : decide (64 < (l0.length : Int)) = true := decide_eq_true c2
  have c2b1 : decide (64 < l0.length) = true := decide_eq_true (by omega)
  clear c2
  simp only [Option.some.injEq, Prod.mk.injEq] at H
  obtain ⟨rfl, rfl⟩ := H
  obtain ⟨Ao3, co3, eo3⟩ := Kd.R_slice HO0.out
  subst eo3
  go_enter Try.func64, Try.ntmps64
  go_wp2
  go_ret2
  exact ⟨_, zz6, zz45, zz2, zz18⟩
 ·rw [if_neg c2] at H
  have c2b0 : decide (64 < (l0.length : Int)) = false := decide_eq_false c2
  have c2b1 : decide (64 < l0.length) = false := decide_eq_false (by omega)
  clear c2
  simp only [Option.some.injEq, Prod.mk.injEq] at H
  obtain ⟨rfl, rfl⟩ := H
  obtain ⟨Ao4, co4, eo4⟩ := Kd.R_slice HO0.out
  subst eo4
  go_enter Try.func64, Try.ntmps64
  go_wp2
  go_ret2
  exact ⟨_, zz6, zz13 HO0, zz2, zz18⟩

/-! ### impl_in: function 83 -/
def impl_in.f (a0 : Int) (a1 : Int) (a2 : Int) : Option (Bool) := if a0 ≥ a1 then (some (decide (a0 ≤ a2))) else (some false)
set_option maxHeartbeats 8000000 in
set_option maxRecDepth 100000 in
theorem impl_in.calls (a0 : Int) (a1 : Int) (a2 : Int) (r : Bool) (w : World) (h : impl_in.f a0 a1 a2 = some r) :
  Calls Try.prog 83 #[.int .i64 a0, .int .i64 a1, .int .i64 a2] w fun e w' => e = .returned (.bool r) ∧ Drawn0 w w' := by
 have H : (if a0 ≥ a1 then (some (decide (a0 ≤ a2))) else (some false)) = some r := h
 clear h
 replace H := ic H
 rcases H with ⟨c4b0, H⟩ | ⟨c4b0, H⟩
 ·obtain rfl := Option.some.inj H
  go_enter Try.func83, Try.ntmps83
  go_wp2
  go_ret
  exact ⟨zz8, zz10⟩
 ·obtain rfl := Option.some.inj H
  go_enter Try.func83, Try.ntmps83
  go_wp2
  go_ret
  exact ⟨zz8, zz10⟩

/-! ### impl_isAddr: function 46 -/
def impl_isAddr.f (a0 : Int) : Option (Bool) := (impl_in.f a0 0 4294967295).bind fun t332 => (some t332)
set_option maxHeartbeats 8000000 in
set_option maxRecDepth 100000 in
theorem impl_isAddr.calls (a0 : Int) (r : Bool) (w : World) (h : impl_isAddr.f a0 = some r) :
  Calls Try.prog 46 #[.int .i64 a0] w fun e w' => e = .returned (.bool r) ∧ Drawn0 w w' := by
 have H : ((impl_in.f a0 0 4294967295).bind fun t332 => (some t332)) = some r := h
 clear h
 replace H := bd H
 obtain ⟨t332, A2, H⟩ := H
 replace H : (some t332) = some r := H
 obtain rfl := Option.some.inj H
 go_enter Try.func46, Try.ntmps46
 go_wp2_with (first | (refine gc (some 4) Try.func83 #[.int .i64 a0, .int .i64 0, .int .i64 4294967295] ?_; (with_reducible refine (impl_in.calls a0 0 4294967295 t332 _ A2.out).mono ?_); rintro e w' ⟨rfl, ⟨nd, rfl⟩⟩; refine ⟨_, rfl, ?_⟩))
 go_ret
 exact ⟨zz8, zz10⟩

/-! ### impl_BlockOk: function 68 -/
def impl_BlockOk.f (a0_0 : Int) (a0_1 : Int) : Option (Bool) := (impl_isAddr.f a0_0).bind fun t334 => (if t334 = true then ((impl_in.f a0_1 0 32).bind fun t335 => (if t335 = true then ((impl_Block_size.f a0_0 a0_1).bind fun t336 => (if t336 = 0 then (none) else (some ((Int.tmod a0_0 t336) == 0)))) else (some false))) else (some false))
def impl_BlockOk.T1 : Bool × List (List Nat × List Nat) := (true, [([], []), ([0], [0]), ([1], [1]), ([2, 2], [2]), ([3], [3]), ([4, 3], [3, 4]), ([5, 3, 3], [3, 5]), ([3, 6], [3, 6]), ([7, 6], [7]), ([8], [8]), ([9, 8], [8, 9]), ([8], [8]), ([11, 8, 8], [8, 11]), ([10, 12, 8], [8, 10, 12]), ([13, 8], [8, 13]), ([8, 14], [8, 14]), ([15, 12, 0, 1, 2, 3, 4, 5, 6, 7, 8, 9, 10, 11, 12, 13, 14, 15], [15])])
def impl_BlockOk.B1 : List Nat := [0, 1, 3, 7, 15, 31, 63, 127, 255, 511, 1023, 511, 2559, 8191, 16383, 32767, 65535]
theorem impl_BlockOk.tab1 : rtab .any (opsOf Try.f68 1) = impl_BlockOk.T1 := by kernel_rfl
theorem impl_BlockOk.bits1 : waitsOk impl_BlockOk.T1.2 impl_BlockOk.B1 = true := by kernel_rfl
set_option maxHeartbeats 8000000 in
set_option maxRecDepth 100000 in
theorem impl_BlockOk.calls (a0_0 : Int) (a0_1 : Int) (r : Bool) (w : World) (h : impl_BlockOk.f a0_0 a0_1 = some r) :
  Calls Try.prog 68 #[.agg #[.int .i64 a0_0, .int .i64 a0_1]] w fun e w' => e = .returned (.bool r) ∧ Below w.heap.size w w' := by
 have hu40 := Try.underlying40
 have HB := Aside0.mk (Below.refl w.heap.size w)
 have H : ((impl_isAddr.f a0_0).bind fun t334 => (if t334 = true then ((impl_in.f a0_1 0 32).bind fun t335 => (if t335 = true then ((impl_Block_size.f a0_0 a0_1).bind fun t336 => (if t336 = 0 then (none) else (some ((Int.tmod a0_0 t336) == 0)))) else (some false))) else (some false))) = some r := h
 clear h
 replace H := bd H
 obtain ⟨t334, A2, H⟩ := H
 replace H : (if t334 = true then ((impl_in.f a0_1 0 32).bind fun t335 => (if t335 = true then ((impl_Block_size.f a0_0 a0_1).bind fun t336 => (if t336 = 0 then (none) else (some ((Int.tmod a0_0 t336) == 0)))) else (some false))) else (some false)) = some r := H
 by_cases c3 : t334 = true
 ·subst c3
  have H1 : ((impl_in.f a0_1 0 32).bind fun t335 => (if t335 = true then ((impl_Block_size.f a0_0 a0_1).bind fun t336 => (if t336 = 0 then (none) else (some ((Int.tmod a0_0 t336) == 0)))) else (some false))) = some r := by rw [if_pos rfl] at H; exact H
  clear H
  have H := H1
  clear H1
  replace H := bd H
  obtain ⟨t335, A4, H⟩ := H
  replace H : (if t335 = true then ((impl_Block_size.f a0_0 a0_1).bind fun t336 => (if t336 = 0 then (none) else (some ((Int.tmod a0_0 t336) == 0)))) else (some false)) = some r := H
  by_cases c5 : t335 = true
  ·subst c5
   have H1 : ((impl_Block_size.f a0_0 a0_1).bind fun t336 => (if t336 = 0 then (none) else (some ((Int.tmod a0_0 t336) == 0)))) = some r := by rw [if_pos rfl] at H; exact H
   clear H
   have H := H1
   clear H1
   replace H := bd H
   obtain ⟨t336, A6, H⟩ := H
   replace H : (if t336 = 0 then (none) else (some ((Int.tmod a0_0 t336) == 0))) = some r := H
   replace H := gn H
   obtain ⟨c7, H⟩ := H
   have c7b0 : (t336 == 0) = false := beq_eq_false_iff_ne.mpr c7
   have c7b1 : (t336 != 0) = true := bne_iff_ne.mpr c7
   obtain rfl := Option.some.inj H
   go_enter Try.func68, Try.ntmps68
   try go_wp2_with (first | (refine be 1 #[.int .i64 a0_0, .int .i64 a0_1] 40 ?_; intro gb333 hg w8 hbox hb; have BK333 := Aside0.mk hbox; have GW333 := Aside0.mk (zz1 : w.heap.size ≤ gb333); have GE333 := Aside0.mk (zz1 : w.heap.size ≤ gb333); replace HB := Aside0.mk (below_step zz2 hb); clear hb hbox hg))
   replace BK333 := Aside0.mk (blk_drew BK333.out)
   replace HB := Aside0.mk (below_drew1 HB.out)
   refine start_ (n := 17) (S := fun w' => w'.cell? ⟨gb333, 0, none⟩ = some (.int .i64 a0_0) ∧ w'.cell? ⟨gb333, 1, none⟩ = some (.int .i64 a0_1)) (ds := []) (bm 17 0) (by kernel_rfl) rfl rfl ⟨(blk_cell BK333.out 0).trans rfl, (blk_cell BK333.out 1).trans rfl⟩ (fun hHeld => ?_); refine with_tabW impl_BlockOk.tab1 impl_BlockOk.bits1 (fun HT_ HW_ => ?_)
   generalize w8.drew = w9 at BK333 HB hHeld ⊢
   refine pu 0 3 (bm 17 1) ?_
   refine tk 1 4 (bm 17 3) ?_
   refine on 2 (some 5) (bm 17 7) (fun K hK => ?_)
   refine gs Try.func46 #[.int .i64 a0_0] ?_
   with_reducible refine (impl_isAddr.calls a0_0 true _ A2.out).mono ?_
   rintro e w' ⟨rfl, ⟨nd, rfl⟩⟩
   refine ⟨_, rfl, ?_⟩
   refine hK.out _ _ ⟨(blk_cell BK333.out 0).trans rfl, (blk_cell BK333.out 1).trans rfl⟩ (fun hHeld => ?_)
   clear hK K
   refine nm 5 ?_
   refine pu 3 6 (bm 17 15) ?_
   refine pu 4 7 (bm 17 31) ?_
   refine tk 5 8 (bm 17 63) ?_
   refine on 6 (some 9) (bm 17 127) (fun K hK => ?_)
   refine gs Try.func83 #[.int .i64 a0_1, .int .i64 0, .int .i64 32] ?_
   with_reducible refine (impl_in.calls a0_1 0 32 true _ A4.out).mono ?_
   rintro e w' ⟨rfl, ⟨nd, rfl⟩⟩
   refine ⟨_, rfl, ?_⟩
   refine hK.out _ _ ⟨(blk_cell BK333.out 0).trans rfl, (blk_cell BK333.out 1).trans rfl⟩ (fun hHeld => ?_)
   clear hK K
   refine nm 9 ?_
   refine pu 7 10 (bm 17 255) ?_
   refine pu 8 11 (bm 17 511) ?_
   refine pu 9 12 (bm 17 1023) ?_
   refine tk 10 13 (bm 17 2047) ?_
   refine tk 11 14 (bm 17 4095) ?_
   refine on 12 (some 15) (bm 17 8191) (fun K hK => ?_)
   refine gs Try.func54 #[.agg #[.int .i64 a0_0, .int .i64 a0_1]] ?_
   with_reducible refine (impl_Block_size.calls a0_0 a0_1 t336 _ A6.out).mono ?_
   rintro e w10 ⟨rfl, hb⟩
   refine ⟨_, rfl, ?_⟩
   replace BK333 := Aside0.mk (blk_below (g := gb333) (o := .cells #[.int .i64 a0_0, .int .i64 a0_1] 40 (0, 0)) (zz5 BK333) hb)
   replace HB := Aside0.mk (below_step (zz4 GE333) hb)
   (try clear hb)
   (try clear hb2)
   (try clear hk)
   (try clear hi)
   refine hK.out _ _ ⟨(blk_cell BK333.out 0).trans rfl, (blk_cell BK333.out 1).trans rfl⟩ (fun hHeld => ?_)
   clear hK K
   refine nm 15 ?_
   refine pu 13 16 (bm 17 16383) ?_
   refine pu 14 17 (bm 17 32767) ?_
   refine pu 15 18 (bm 17 65535) ?_
   refine pu 16 2 (bm 17 131071) ?_
   refine done_ (done_of HT_.out (by kernel_rfl)) ?_
   try go_wp2
   go_ret
   exact ⟨zz6, zz4 GE333⟩
  ·replace c5 := Bool.eq_false_iff.mpr c5
   subst c5
   have H1 : (some false) = some r := by rw [if_neg (show ¬ (false = true) by decide)] at H; exact H
   clear H
   have H := H1
   clear H1
   obtain rfl := Option.some.inj H
   go_enter Try.func68, Try.ntmps68
   try go_wp2_with (first | (refine be 1 #[.int .i64 a0_0, .int .i64 a0_1] 40 ?_; intro gb333 hg w11 hbox hb; have BK333 := Aside0.mk hbox; have GW333 := Aside0.mk (zz1 : w.heap.size ≤ gb333); have GE333 := Aside0.mk (zz1 : w.heap.size ≤ gb333); replace HB := Aside0.mk (below_step zz2 hb); clear hb hbox hg))
   replace BK333 := Aside0.mk (blk_drew BK333.out)
   replace HB := Aside0.mk (below_drew1 HB.out)
   refine start_ (n := 17) (S := fun w' => w'.cell? ⟨gb333, 0, none⟩ = some (.int .i64 a0_0) ∧ w'.cell? ⟨gb333, 1, none⟩ = some (.int .i64 a0_1)) (ds := []) (bm 17 0) (by kernel_rfl) rfl rfl ⟨(blk_cell BK333.out 0).trans rfl, (blk_cell BK333.out 1).trans rfl⟩ (fun hHeld => ?_); refine with_tabW impl_BlockOk.tab1 impl_BlockOk.bits1 (fun HT_ HW_ => ?_)
   generalize w11.drew = w12 at BK333 HB hHeld ⊢
   refine pu 0 3 (bm 17 1) ?_
   refine tk 1 4 (bm 17 3) ?_
   refine on 2 (some 5) (bm 17 7) (fun K hK => ?_)
   refine gs Try.func46 #[.int .i64 a0_0] ?_
   with_reducible refine (impl_isAddr.calls a0_0 true _ A2.out).mono ?_
   rintro e w' ⟨rfl, ⟨nd, rfl⟩⟩
   refine ⟨_, rfl, ?_⟩
   refine hK.out _ _ ⟨(blk_cell BK333.out 0).trans rfl, (blk_cell BK333.out 1).trans rfl⟩ (fun hHeld => ?_)
   clear hK K
   refine nm 5 ?_
   refine pu 3 6 (bm 17 15) ?_
   refine pu 4 7 (bm 17 31) ?_
   refine tk 5 8 (bm 17 63) ?_
   refine on 6 (some 9) (bm 17 127) (fun K hK => ?_)
   refine gs Try.func83 #[.int .i64 a0_1, .int .i64 0, .int .i64 32] ?_
   with_reducible refine (impl_in.calls a0_1 0 32 false _ A4.out).mono ?_
   rintro e w' ⟨rfl, ⟨nd, rfl⟩⟩
   refine ⟨_, rfl, ?_⟩
   refine hK.out _ _ ⟨(blk_cell BK333.out 0).trans rfl, (blk_cell BK333.out 1).trans rfl⟩ (fun hHeld => ?_)
   clear hK K
   refine nm 9 ?_
   refine pu 7 10 (bm 17 255) ?_
   refine pu 8 11 (bm 17 511) ?_
   refine po 9 12 (bm 17 1023) ?_
   refine po 10 13 (bm 17 2047) ?_
   refine po 11 14 (bm 17 4095) ?_
   refine po 12 15 (bm 17 8191) ?_
   refine po 13 16 (bm 17 16383) ?_
   refine po 14 17 (bm 17 32767) ?_
   refine pu 15 18 (bm 17 65535) ?_
   refine pu 16 2 (bm 17 131071) ?_
   refine done_ (done_of HT_.out (by kernel_rfl)) ?_
   try go_wp2
   go_ret
   exact ⟨zz6, zz4 GE333⟩
 ·replace c3 := Bool.eq_false_iff.mpr c3
  subst c3
  have H1 : (some false) = some r := by rw [if_neg (show ¬ (false = true) by decide)] at H; exact H
  clear H
  have H := H1
  clear H1
  obtain rfl := Option.some.inj H
  go_enter Try.func68, Try.ntmps68
  try go_wp2_with (first | (refine be 1 #[.int .i64 a0_0, .int .i64 a0_1] 40 ?_; intro gb333 hg w13 hbox hb; have BK333 := Aside0.mk hbox; have GW333 := Aside0.mk (zz1 : w.heap.size ≤ gb333); have GE333 := Aside0.mk (zz1 : w.heap.size ≤ gb333); replace HB := Aside0.mk (below_step zz2 hb); clear hb hbox hg))
  replace BK333 := Aside0.mk (blk_drew BK333.out)
  replace HB := Aside0.mk (below_drew1 HB.out)
  refine start_ (n := 17) (S := fun w' => w'.cell? ⟨gb333, 0, none⟩ = some (.int .i64 a0_0) ∧ w'.cell? ⟨gb333, 1, none⟩ = some (.int .i64 a0_1)) (ds := []) (bm 17 0) (by kernel_rfl) rfl rfl ⟨(blk_cell BK333.out 0).trans rfl, (blk_cell BK333.out 1).trans rfl⟩ (fun hHeld => ?_); refine with_tabW impl_BlockOk.tab1 impl_BlockOk.bits1 (fun HT_ HW_ => ?_)
  generalize w13.drew = w14 at BK333 HB hHeld ⊢
  refine pu 0 3 (bm 17 1) ?_
  refine tk 1 4 (bm 17 3) ?_
  refine on 2 (some 5) (bm 17 7) (fun K hK => ?_)
  refine gs Try.func46 #[.int .i64 a0_0] ?_
  with_reducible refine (impl_isAddr.calls a0_0 false _ A2.out).mono ?_
  rintro e w' ⟨rfl, ⟨nd, rfl⟩⟩
  refine ⟨_, rfl, ?_⟩
  refine hK.out _ _ ⟨(blk_cell BK333.out 0).trans rfl, (blk_cell BK333.out 1).trans rfl⟩ (fun hHeld => ?_)
  clear hK K
  refine nm 5 ?_
  refine pu 3 6 (bm 17 15) ?_
  refine po 4 7 (bm 17 31) ?_
  refine po 5 8 (bm 17 63) ?_
  refine po 6 9 (bm 17 127) ?_
  refine pu 7 10 (bm 17 255) ?_
  refine pu 8 11 (bm 17 511) ?_
  refine po 9 12 (bm 17 1023) ?_
  refine po 10 13 (bm 17 2047) ?_
  refine po 11 14 (bm 17 4095) ?_
  refine po 12 15 (bm 17 8191) ?_
  refine po 13 16 (bm 17 16383) ?_
  refine po 14 17 (bm 17 32767) ?_
  refine pu 15 18 (bm 17 65535) ?_
  refine pu 16 2 (bm 17 131071) ?_
  refine done_ (done_of HT_.out (by kernel_rfl)) ?_
  try go_wp2
  go_ret
  exact ⟨zz6, zz4 GE333⟩

/-! ### cmp_Or_int: function 114 -/
def cmp_Or_int.l0 : Nat → Int → List Int → Int → Int → Option (Int)
 | 0, _, _, _, _ => none
 | k + 1, x3, x6, x7, x8 => if x8 < x7 then (if 0 ≤ x8 then (if x8 < (x6.length : Int) then (if (rd x6 x8) = x3 then (cmp_Or_int.l0 k x3 x6 x7 (wrap64 (x8 + 1))) else (some (rd x6 x8))) else (none)) else (none)) else (some x3)
def cmp_Or_int.f (k : Nat) (l0 : List Int) : Option (Int) := cmp_Or_int.l0 k 0 l0 (l0.length : Int) 0
theorem cmp_Or_int.mono_l : ∀ k, (∀ y0 y1 y2 y3, LeO (cmp_Or_int.l0 k y0 y1 y2 y3) (cmp_Or_int.l0 (k + 1) y0 y1 y2 y3))
 | 0 => fun _ _ _ _ r h => by simp [cmp_Or_int.l0] at h
 | k + 1 => by
  have ih0 := cmp_Or_int.mono_l k
  ·intro y0 y1 y2 y3
   unfold cmp_Or_int.l0
   repeat' first
   | (with_reducible exact ih0 _ _ _ _)
   | (with_reducible exact LeO.refl _)
   | (with_reducible exact LeO.none _)
   | (with_reducible refine LeO.ite ?_ ?_)
   | (with_reducible refine LeO.bind ?_ (fun _ => ?_))
   | exact ih0 _ _ _ _
   | exact LeO.none _
   | refine LeO.ite ?_ ?_
   | refine LeO.bind ?_ (fun _ => ?_)
theorem cmp_Or_int.mono : ∀ a0 k, LeO (cmp_Or_int.f k a0) (cmp_Or_int.f (k + 1) a0) := by
 intro a0 k
 have ih0 := cmp_Or_int.mono_l k
 unfold cmp_Or_int.f
 repeat' first
   | (with_reducible exact ih0 _ _ _ _)
   | (with_reducible exact LeO.refl _)
   | (with_reducible exact LeO.none _)
   | (with_reducible refine LeO.ite ?_ ?_)
   | (with_reducible refine LeO.bind ?_ (fun _ => ?_))
   | exact ih0 _ _ _ _
   | exact LeO.none _
   | refine LeO.ite ?_ ?_
   | refine LeO.bind ?_ (fun _ => ?_)
set_option maxHeartbeats 8000000 in
set_option maxRecDepth 100000 in
theorem cmp_Or_int.calls (k : Nat) (A0 : Option Addr) (c0 : Nat) (l0 : List Int) (r : Int) (w : World) (hr0 : Kd.C (Kd.int .i64) w A0 l0.length l0) (hc0 : l0.length ≤ c0) (h : cmp_Or_int.f k l0 = some r) :
  Calls Try.prog 114 #[.slice A0 l0.length c0] w fun e w' => e = .returned (.int .i64 r) ∧ Drawn0 w w' := by
 have HR0 := Aside0.mk hr0
 have HC0 := Aside0.mk hc0
 clear hr0 hc0
 have H : (cmp_Or_int.l0 k 0 l0 (l0.length : Int) 0) = some r := h
 clear h
 have H' := Aside0.mk H
 clear H
 go_enter Try.func114, Try.ntmps114
 go_wp2
 go_loopg [8] k (fun kq v8 w' => ∃ (x8_1 : Int), v8 = .int .i64 x8_1 ∧ Aside0 (cmp_Or_int.l0 kq 0 l0 (l0.length : Int) x8_1 = some r) ∧ Aside0 (kq ≤ k) ∧ Drawn0 w w')
 case atStart => exact ⟨(0), zz8, H', ⟨Nat.le_refl _⟩, zz10⟩
 case round =>
  clear H'
  try clear c1
  obtain ⟨x8_1, rfl, HA, HK1, ⟨m1, rfl⟩⟩ := hrel
  cases gk with
  | zero => exact absurd HA.out (by simp [cmp_Or_int.l0])
  | succ k1 =>
   have H := HA.out
   clear HA
   simp only [cmp_Or_int.l0] at H
   replace H := ic H
   rcases H with ⟨c2b0, H⟩ | ⟨c2b0, H⟩
   ·replace H := gd H
    obtain ⟨c3b0, H⟩ := H
    replace H := gd H
    obtain ⟨c4b0, H⟩ := H
    by_cases c5 : (rd l0 x8_1) = 0
    ·rw [if_pos c5] at H
     have c5b0 : ((rd l0 x8_1) == 0) = true := beq_iff_eq.mpr c5
     have c5b1 : ((rd l0 x8_1) != 0) = false := bne_eq_false_iff_eq.mpr c5
     clear c5
     have H' := Aside0.mk H
     clear H
     have p337 : 0 ≤ (x8_1 : Int) := da
     have q337 : x8_1 < (l0.length : Int) := da
     obtain ⟨ad337, e337, hx337_0⟩ := Kd.at_int HR0.out x8_1 p337 q337
     cases e337
     replace p337 := eq_true p337
     replace q337 := eq_true q337
     go_wp2
     go_roundg k1
     case measure => have := HK1.out; omega
     case rel => exact ⟨(wrap64 (x8_1 + 1)), zz8, H', ⟨zz9 HK1⟩, zz10⟩
    ·rw [if_neg c5] at H
     have c5b0 : ((rd l0 x8_1) == 0) = false := beq_eq_false_iff_ne.mpr c5
     have c5b1 : ((rd l0 x8_1) != 0) = true := bne_iff_ne.mpr c5
     obtain rfl := Option.some.inj H
     have p337 : 0 ≤ (x8_1 : Int) := da
     have q337 : x8_1 < (l0.length : Int) := da
     obtain ⟨ad337, e337, hx337_0⟩ := Kd.at_int HR0.out x8_1 p337 q337
     cases e337
     replace p337 := eq_true p337
     replace q337 := eq_true q337
     go_wp2
     go_ret
     exact ⟨zz8, zz10⟩
   ·obtain rfl := Option.some.inj H
    go_wp2
    go_ret
    exact ⟨zz8, zz10⟩

end Go.Proofs.Ythkjkmgbdahggaa.PW
