/- A text printed by this session's wip/myprint.py over the kit's print: contracts of functions of the given program, each at what its Lean function says. -/
import Derived.Test.YthkjkmgbdahggaaPLx0
import Derived.Test.YthkjkmgbdahggaaPLx1
namespace Go.Proofs.Ythkjkmgbdahggaa.PL
open Go.RowKit Go.Proofs.YthkjkmgbdahggaaW.PrintWords Go.Proofs.YthkjkmgbdahggaaW.PrintLast Go.Proofs.YthkjkmgbdahggaaW.PrintMore Go.Proofs.Ythkjkmgbdahggaa.Sq
attribute [local go_sem] max2_int min2_int max_two min_two max_three min_three max_four min_four   -- for this text's walks alone
set_option linter.unusedVariables false
set_option linter.unusedSimpArgs false
attribute [local go_sem high] eqA40
def laws_ovBlocks.l0 : Nat → List (S40) → List (S40) → Int → Option (Bool)
 | 0, _, _, _ => none
 | k + 1, x0, x1, x5 => if x5 < (x0.length : Int) then (if 0 ≤ x5 then (if x5 < (x1.length : Int) then (if (!(((rd_T40 x0 x5).f0) == ((rd_T40 x1 x5).f0)) || (!(((rd_T40 x0 x5).f1) == ((rd_T40 x1 x5).f1)))) = true then (some false) else (laws_ovBlocks.l0 k x0 x1 (wrap64 (x5 + 1)))) else (none)) else (none)) else (some true)
def laws_ovBlocks.f (k : Nat) (l0 : List (S40)) (l1 : List (S40)) : Option (Bool) := if (l0.length : Int) = (l1.length : Int) then (laws_ovBlocks.l0 k l0 l1 0) else (some false)
set_option maxHeartbeats 8000000 in
set_option maxRecDepth 100000 in
theorem laws_ovBlocks.calls (k : Nat) (A0 : Option Addr) (c0 : Nat) (l0 : List (S40)) (A1 : Option Addr) (c1 : Nat) (l1 : List (S40)) (r : Bool) (w : World) (hr0 : Kd.C k40 w A0 l0.length l0) (hc0 : l0.length ≤ c0) (hr1 : Kd.C k40 w A1 l1.length l1) (hc1 : l1.length ≤ c1) (h : laws_ovBlocks.f k l0 l1 = some r) :
  Calls Try.prog 11 #[.slice A0 l0.length c0, .slice A1 l1.length c1] w fun e w' => e = .returned (.bool r) ∧ Drawn0 w w' := by
 have hu40 := Try.underlying40
 have HR0 := Aside0.mk hr0
 have HC0 := Aside0.mk hc0
 clear hr0 hc0
 have HR1 := Aside0.mk hr1
 have HC1 := Aside0.mk hc1
 clear hr1 hc1
 have H : (if (l0.length : Int) = (l1.length : Int) then (laws_ovBlocks.l0 k l0 l1 0) else (some false)) = some r := h
 clear h
 by_cases c3 : (l0.length : Int) = (l1.length : Int)
 ·rw [if_pos c3] at H
  have c3b0 : ((l0.length : Int) == (l1.length : Int)) = true := beq_iff_eq.mpr c3
  have c3b1 : ((l0.length : Int) != (l1.length : Int)) = false := bne_eq_false_iff_eq.mpr c3
  have c3b2 : (l0.length == l1.length) = true := by first | simpa using c3 | (simp at c3 ⊢; omega)
  clear c3
  have H' := Aside0.mk H
  clear H
  go_enter Try.func11, Try.ntmps11
  go_wp2
  repeat (go_quiet (fail); try go_wp2)
  go_loopg [5] k (fun kq v5 w' => ∃ (x5_1 : Int), v5 = .int .i64 x5_1 ∧ Aside0 (laws_ovBlocks.l0 kq l0 l1 x5_1 = some r) ∧ Aside0 (kq ≤ k) ∧ Drawn0 w w')
  case atStart => exact ⟨(0), zz1, H', ⟨Nat.le_refl _⟩, zz2⟩
  case round =>
   clear H'
   try clear c1
   try clear p2
   try clear c3
   try clear c3b0
   try clear c3b1
   try clear c3b2
   obtain ⟨x5_1, rfl, HA, HK1, ⟨m1, rfl⟩⟩ := hrel
   cases gk with
   | zero => exact absurd HA.out (by simp [laws_ovBlocks.l0])
   | succ k1 =>
    have H := HA.out
    clear HA
    simp only [laws_ovBlocks.l0] at H
    replace H := ic H
    rcases H with ⟨c4b0, H⟩ | ⟨c4b0, H⟩
    ·replace H := gd H
     obtain ⟨c5b0, H⟩ := H
     replace H := gd H
     obtain ⟨c6b0, H⟩ := H
     by_cases c7 : (!(((rd_T40 l0 x5_1).f0) == ((rd_T40 l1 x5_1).f0)) || (!(((rd_T40 l0 x5_1).f1) == ((rd_T40 l1 x5_1).f1)))) = true
     ·rw [if_pos c7] at H
      have c7b0 : (!(((rd_T40 l0 x5_1).f0) == ((rd_T40 l1 x5_1).f0)) || (!(((rd_T40 l0 x5_1).f1) == ((rd_T40 l1 x5_1).f1)))) = true := c7
      clear c7
      obtain rfl := Option.some.inj H
      obtain ⟨⟨ad101, e101, hx101_0, hx101_1⟩, p101, q101⟩ := wi (at_T40 HR0.out x5_1)
      cases e101
      obtain ⟨⟨ad102, e102, hx102_0, hx102_1⟩, p102, q102⟩ := wi (at_T40 HR1.out x5_1)
      cases e102
      go_wp2
      repeat (go_quiet (fail); try go_wp2)
      go_ret
      exact ⟨zz1, zz2⟩
     ·rw [if_neg c7] at H
      have c7b0 : (!(((rd_T40 l0 x5_1).f0) == ((rd_T40 l1 x5_1).f0)) || (!(((rd_T40 l0 x5_1).f1) == ((rd_T40 l1 x5_1).f1)))) = false := by simpa using c7
      clear c7
      have H' := Aside0.mk H
      clear H
      obtain ⟨⟨ad101, e101, hx101_0, hx101_1⟩, p101, q101⟩ := wi (at_T40 HR0.out x5_1)
      cases e101
      obtain ⟨⟨ad102, e102, hx102_0, hx102_1⟩, p102, q102⟩ := wi (at_T40 HR1.out x5_1)
      cases e102
      go_wp2
      repeat (go_quiet (fail); try go_wp2)
      go_roundg k1
      case measure => have := HK1.out; omega
      case rel => exact ⟨(wrap64 (x5_1 + 1)), zz1, H', ⟨zz3 HK1⟩, zz2⟩
    ·obtain rfl := Option.some.inj H
     go_wp2
     repeat (go_quiet (fail); try go_wp2)
     go_ret
     exact ⟨zz1, zz2⟩
 ·rw [if_neg c3] at H
  have c3b0 : ((l0.length : Int) == (l1.length : Int)) = false := beq_eq_false_iff_ne.mpr c3
  have c3b1 : ((l0.length : Int) != (l1.length : Int)) = true := bne_iff_ne.mpr c3
  have c3b2 : (l0.length == l1.length) = false := by first | simpa using c3 | (simp at c3 ⊢; omega)
  obtain rfl := Option.some.inj H
  go_enter Try.func11, Try.ntmps11
  go_wp2
  repeat (go_quiet (fail); try go_wp2)
  go_ret
  exact ⟨zz1, zz2⟩
-- NOT PRINTED: function 92 (impl_Block_92)
-- NOT PRINTED: function 55 (impl_Block_55)
def impl_in.f (a0 : Int) (a1 : Int) (a2 : Int) : Option (Bool) := if a0 ≥ a1 then (some (decide (a0 ≤ a2))) else (some false)
set_option maxHeartbeats 8000000 in
set_option maxRecDepth 100000 in
theorem impl_in.calls (a0 : Int) (a1 : Int) (a2 : Int) (r : Bool) (w : World) (h : impl_in.f a0 a1 a2 = some r) :
  Calls Try.prog 83 #[.int .i64 a0, .int .i64 a1, .int .i64 a2] w fun e w' => e = .returned (.bool r) ∧ Drawn0 w w' := by
 have H : (if a0 ≥ a1 then (some (decide (a0 ≤ a2))) else (some false)) = some r := h
 clear h
 replace H := ic H
 rcases H with ⟨c4b0, H⟩ | ⟨c4b0, H⟩
 ·obtain rfl := Option.some.inj H
  go_enter Try.func83, Try.ntmps83
  go_wp2
  go_ret
  exact ⟨zz1, zz2⟩
 ·obtain rfl := Option.some.inj H
  go_enter Try.func83, Try.ntmps83
  go_wp2
  go_ret
  exact ⟨zz1, zz2⟩
def impl_isAddr.f (a0 : Int) : Option (Bool) := (impl_in.f a0 0 4294967295).bind fun t103 => (some t103)
set_option maxHeartbeats 8000000 in
set_option maxRecDepth 100000 in
theorem impl_isAddr.calls (a0 : Int) (r : Bool) (w : World) (h : impl_isAddr.f a0 = some r) :
  Calls Try.prog 46 #[.int .i64 a0] w fun e w' => e = .returned (.bool r) ∧ Drawn0 w w' := by
 have H : ((impl_in.f a0 0 4294967295).bind fun t103 => (some t103)) = some r := h
 clear h
 replace H := bd H
 obtain ⟨t103, A2, H⟩ := H
 replace H : (some t103) = some r := H
 obtain rfl := Option.some.inj H
 go_enter Try.func46, Try.ntmps46
 go_wp2_with (first | (refine gc (some 4) Try.func83 #[.int .i64 a0, .int .i64 0, .int .i64 4294967295] ?_; (with_reducible refine (impl_in.calls a0 0 4294967295 t103 _ A2.out).mono ?_); rintro e w' ⟨rfl, ⟨nd, rfl⟩⟩; refine ⟨_, rfl, ?_⟩))
 go_ret
 exact ⟨zz1, zz2⟩
def impl_Block_size.f (a0_0 : Int) (a0_1 : Int) : Option (Int) := if 0 ≤ (wrap64 (32 - a0_1)) then (some (shl .i64 1 (wrap64 (32 - a0_1)))) else (none)
set_option maxHeartbeats 8000000 in
set_option maxRecDepth 100000 in
theorem impl_Block_size.calls (a0_0 : Int) (a0_1 : Int) (r : Int) (w : World) (h : impl_Block_size.f a0_0 a0_1 = some r) :
  Calls Try.prog 54 #[.agg #[.int .i64 a0_0, .int .i64 a0_1]] w fun e w' => e = .returned (.int .i64 r) ∧ Below w.heap.size w w' := by
 have hu40 := Try.underlying40
 have HB := Aside0.mk (Below.refl w.heap.size w)
 have H : (if 0 ≤ (wrap64 (32 - a0_1)) then (some (shl .i64 1 (wrap64 (32 - a0_1)))) else (none)) = some r := h
 clear h
 obtain ⟨ji2, hji2⟩ : ∃ j_ : Int, (wrap64 (32 - a0_1)) = j_ := ⟨_, rfl⟩
 replace H : (if 0 ≤ (ji2) then (some (shl .i64 1 (ji2))) else (none)) = some r := by first | (rw [hji2] at H; exact H) | (simp only [hji2] at H ⊢; exact H)
 have hji2w : (IntKind.i64.wrap (32 - a0_1)) = ji2 := (i64_w _).trans hji2
 by_cases c3 : 0 ≤ (ji2)
 ·rw [if_pos c3] at H
  have c3b0 := eq_true c3
  have c3b1 : decide (0 ≤ (ji2)) = true := decide_eq_true c3
  clear c3
  obtain ⟨ji4, hji4⟩ : ∃ j_ : Int, (shl .i64 1 (ji2)) = j_ := ⟨_, rfl⟩
  replace H : (some ji4) = some r := by first | (rw [hji4] at H; exact H) | (simp only [hji4] at H ⊢; exact H)
  have hji4_ : (IntKind.i64.wrap (1 * 2 ^ min (ji2).toNat 64)) = ji4 := hji4
  have hji4z : (ji2) ≤ 64 → (IntKind.i64.wrap (1 * 2 ^ (ji2).toNat)) = ji4 := shl_small hji4
  have hji4u : (IntKind.i64.wrap (2 ^ min (ji2).toNat 64)) = ji4 := by have h_ := hji4_; rw [Int.one_mul] at h_; exact h_
  have hji4v : (ji2) ≤ 64 → (IntKind.i64.wrap (2 ^ (ji2).toNat)) = ji4 := fun hle_ => by have h_ := hji4z hle_; rw [Int.one_mul] at h_; exact h_
  have hji4y : (wrap64 (1 * 2 ^ min (ji2).toNat 64)) = ji4 := (i64_w _).symm.trans hji4_
  have hji4x : (ji2) ≤ 64 → (wrap64 (1 * 2 ^ (ji2).toNat)) = ji4 := fun h_ => (i64_w _).symm.trans (hji4z h_)
  obtain rfl := Option.some.inj H
  go_enter Try.func54, Try.ntmps54
  go_wp2_with (first | (refine be 1 #[.int .i64 a0_0, .int .i64 a0_1] 40 ?_; intro gb104 hg w5 hbox hb; have BK104 := Aside0.mk hbox; have GW104 := Aside0.mk (zz4 : w.heap.size ≤ gb104); have GE104 := Aside0.mk (zz4 : w.heap.size ≤ gb104); replace HB := Aside0.mk (below_step zz5 hb); clear hb hbox hg; have hcz6_0 : w5.cell? ⟨gb104, 0, none⟩ = some (.int .i64 a0_0) := (blk_cell BK104.out 0).trans rfl; have hcz6_1 : w5.cell? ⟨gb104, 1, none⟩ = some (.int .i64 a0_1) := (blk_cell BK104.out 1).trans rfl; have hfz6_0 := blk_frozen BK104.out 0; have hfz6_1 := blk_frozen BK104.out 1))
  go_ret
  exact ⟨by first | rfl | (simp [errW_none, errW_some] <;> rfl) | (simp only [← hji2, ← hji4]; first | rfl | (simp [errW_none, errW_some] <;> rfl)) | (simp [*, errW_none, errW_some] <;> rfl), zz6 GE104⟩
 ·rw [if_neg c3] at H
  exact absurd H (by simp)
def impl_BlockOk.f (a0_0 : Int) (a0_1 : Int) : Option (Bool) := (impl_isAddr.f a0_0).bind fun t106 => (if t106 = true then ((impl_in.f a0_1 0 32).bind fun t107 => (if t107 = true then ((impl_Block_size.f a0_0 a0_1).bind fun t108 => (if t108 = 0 then (none) else (some ((Int.tmod a0_0 t108) == 0)))) else (some false))) else (some false))
def impl_BlockOk.T1 : Bool × List (List Nat × List Nat) := (true, [([], []), ([0], [0]), ([1], [1]), ([2, 2], [2]), ([3], [3]), ([4, 3], [3, 4]), ([5, 3, 3], [3, 5]), ([3, 6], [3, 6]), ([7, 6], [7]), ([8], [8]), ([9, 8], [8, 9]), ([8], [8]), ([11, 8, 8], [8, 11]), ([10, 12, 8], [8, 10, 12]), ([13, 8], [8, 13]), ([8, 14], [8, 14]), ([15, 12, 0, 1, 2, 3, 4, 5, 6, 7, 8, 9, 10, 11, 12, 13, 14, 15], [15])])
def impl_BlockOk.B1 : List Nat := [0, 1, 3, 7, 15, 31, 63, 127, 255, 511, 1023, 511, 2559, 8191, 16383, 32767, 65535]
theorem impl_BlockOk.tab1 : rtab .any (opsOf Try.f68 1) = impl_BlockOk.T1 := by kernel_rfl
theorem impl_BlockOk.bits1 : waitsOk impl_BlockOk.T1.2 impl_BlockOk.B1 = true := by kernel_rfl
set_option maxHeartbeats 8000000 in
set_option maxRecDepth 100000 in
theorem impl_BlockOk.calls (a0_0 : Int) (a0_1 : Int) (r : Bool) (w : World) (h : impl_BlockOk.f a0_0 a0_1 = some r) :
  Calls Try.prog 68 #[.agg #[.int .i64 a0_0, .int .i64 a0_1]] w fun e w' => e = .returned (.bool r) ∧ Below w.heap.size w w' := by
 have hu40 := Try.underlying40
 have HB := Aside0.mk (Below.refl w.heap.size w)
 have H : ((impl_isAddr.f a0_0).bind fun t106 => (if t106 = true then ((impl_in.f a0_1 0 32).bind fun t107 => (if t107 = true then ((impl_Block_size.f a0_0 a0_1).bind fun t108 => (if t108 = 0 then (none) else (some ((Int.tmod a0_0 t108) == 0)))) else (some false))) else (some false))) = some r := h
 clear h
 replace H := bd H
 obtain ⟨t106, A2, H⟩ := H
 replace H : (if t106 = true then ((impl_in.f a0_1 0 32).bind fun t107 => (if t107 = true then ((impl_Block_size.f a0_0 a0_1).bind fun t108 => (if t108 = 0 then (none) else (some ((Int.tmod a0_0 t108) == 0)))) else (some false))) else (some false)) = some r := H
 by_cases c3 : t106 = true
 ·subst c3
  have H1 : ((impl_in.f a0_1 0 32).bind fun t107 => (if t107 = true then ((impl_Block_size.f a0_0 a0_1).bind fun t108 => (if t108 = 0 then (none) else (some ((Int.tmod a0_0 t108) == 0)))) else (some false))) = some r := by rw [if_pos rfl] at H; exact H
  clear H
  have H := H1
  clear H1
  replace H := bd H
  obtain ⟨t107, A4, H⟩ := H
  replace H : (if t107 = true then ((impl_Block_size.f a0_0 a0_1).bind fun t108 => (if t108 = 0 then (none) else (some ((Int.tmod a0_0 t108) == 0)))) else (some false)) = some r := H
  by_cases c5 : t107 = true
  ·subst c5
   have H1 : ((impl_Block_size.f a0_0 a0_1).bind fun t108 => (if t108 = 0 then (none) else (some ((Int.tmod a0_0 t108) == 0)))) = some r := by rw [if_pos rfl] at H; exact H
   clear H
   have H := H1
   clear H1
   replace H := bd H
   obtain ⟨t108, A6, H⟩ := H
   replace H : (if t108 = 0 then (none) else (some ((Int.tmod a0_0 t108) == 0))) = some r := H
   replace H := gn H
   obtain ⟨c7, H⟩ := H
   have c7b0 : (t108 == 0) = false := beq_eq_false_iff_ne.mpr c7
   have c7b1 : (t108 != 0) = true := bne_iff_ne.mpr c7
   obtain rfl := Option.some.inj H
   go_enter Try.func68, Try.ntmps68
   try go_wp2_with (first | (refine be 1 #[.int .i64 a0_0, .int .i64 a0_1] 40 ?_; intro gb105 hg w8 hbox hb; have BK105 := Aside0.mk hbox; have GW105 := Aside0.mk (zz4 : w.heap.size ≤ gb105); have GE105 := Aside0.mk (zz4 : w.heap.size ≤ gb105); replace HB := Aside0.mk (below_step zz5 hb); clear hb hbox hg))
   replace BK105 := Aside0.mk (blk_drew BK105.out)
   replace HB := Aside0.mk (below_drew1 HB.out)
   refine start_ (n := 17) (S := fun w' => w'.cell? ⟨gb105, 0, none⟩ = some (.int .i64 a0_0) ∧ w'.cell? ⟨gb105, 1, none⟩ = some (.int .i64 a0_1)) (ds := []) (bm 17 0) (by kernel_rfl) rfl rfl ⟨(blk_cell BK105.out 0).trans rfl, (blk_cell BK105.out 1).trans rfl⟩ (fun hHeld => ?_); refine with_tabW impl_BlockOk.tab1 impl_BlockOk.bits1 (fun HT_ HW_ => ?_)
   generalize w8.drew = w9 at BK105 HB hHeld ⊢
   refine pu 0 3 (bm 17 1) ?_
   refine tk 1 4 (bm 17 3) ?_
   refine on 2 (some 5) (bm 17 7) (fun K hK => ?_)
   refine gs Try.func46 #[.int .i64 a0_0] ?_
   with_reducible refine (impl_isAddr.calls a0_0 true _ A2.out).mono ?_
   rintro e w' ⟨rfl, ⟨nd, rfl⟩⟩
   refine ⟨_, rfl, ?_⟩
   refine hK.out _ _ ⟨(blk_cell BK105.out 0).trans rfl, (blk_cell BK105.out 1).trans rfl⟩ (fun hHeld => ?_)
   clear hK K
   refine nm 5 ?_
   refine pu 3 6 (bm 17 15) ?_
   refine pu 4 7 (bm 17 31) ?_
   refine tk 5 8 (bm 17 63) ?_
   refine on 6 (some 9) (bm 17 127) (fun K hK => ?_)
   refine gs Try.func83 #[.int .i64 a0_1, .int .i64 0, .int .i64 32] ?_
   with_reducible refine (impl_in.calls a0_1 0 32 true _ A4.out).mono ?_
   rintro e w' ⟨rfl, ⟨nd, rfl⟩⟩
   refine ⟨_, rfl, ?_⟩
   refine hK.out _ _ ⟨(blk_cell BK105.out 0).trans rfl, (blk_cell BK105.out 1).trans rfl⟩ (fun hHeld => ?_)
   clear hK K
   refine nm 9 ?_
   refine pu 7 10 (bm 17 255) ?_
   refine pu 8 11 (bm 17 511) ?_
   refine pu 9 12 (bm 17 1023) ?_
   refine tk 10 13 (bm 17 2047) ?_
   refine tk 11 14 (bm 17 4095) ?_
   refine on 12 (some 15) (bm 17 8191) (fun K hK => ?_)
   refine gs Try.func54 #[.agg #[.int .i64 a0_0, .int .i64 a0_1]] ?_
   with_reducible refine (impl_Block_size.calls a0_0 a0_1 t108 _ A6.out).mono ?_
   rintro e w10 ⟨rfl, hb⟩
   refine ⟨_, rfl, ?_⟩
   replace BK105 := Aside0.mk (blk_below (g := gb105) (o := .cells #[.int .i64 a0_0, .int .i64 a0_1] 40 (0, 0)) (zz7 BK105) hb)
   replace HB := Aside0.mk (below_step (zz6 GE105) hb)
   (try clear hb)
   (try clear hb2)
   (try clear hk)
   (try clear hi)
   refine hK.out _ _ ⟨(blk_cell BK105.out 0).trans rfl, (blk_cell BK105.out 1).trans rfl⟩ (fun hHeld => ?_)
   clear hK K
   refine nm 15 ?_
   refine pu 13 16 (bm 17 16383) ?_
   refine pu 14 17 (bm 17 32767) ?_
   refine pu 15 18 (bm 17 65535) ?_
   refine pu 16 2 (bm 17 131071) ?_
   refine done_ (done_of HT_.out (by kernel_rfl)) ?_
   try go_wp2
   go_ret
   exact ⟨zz8, zz6 GE105⟩
  ·replace c5 := Bool.eq_false_iff.mpr c5
   subst c5
   have H1 : (some false) = some r := by rw [if_neg (show ¬ (false = true) by decide)] at H; exact H
   clear H
   have H := H1
   clear H1
   obtain rfl := Option.some.inj H
   go_enter Try.func68, Try.ntmps68
   try go_wp2_with (first | (refine be 1 #[.int .i64 a0_0, .int .i64 a0_1] 40 ?_; intro gb105 hg w11 hbox hb; have BK105 := Aside0.mk hbox; have GW105 := Aside0.mk (zz4 : w.heap.size ≤ gb105); have GE105 := Aside0.mk (zz4 : w.heap.size ≤ gb105); replace HB := Aside0.mk (below_step zz5 hb); clear hb hbox hg))
   replace BK105 := Aside0.mk (blk_drew BK105.out)
   replace HB := Aside0.mk (below_drew1 HB.out)
   refine start_ (n := 17) (S := fun w' => w'.cell? ⟨gb105, 0, none⟩ = some (.int .i64 a0_0) ∧ w'.cell? ⟨gb105, 1, none⟩ = some (.int .i64 a0_1)) (ds := []) (bm 17 0) (by kernel_rfl) rfl rfl ⟨(blk_cell BK105.out 0).trans rfl, (blk_cell BK105.out 1).trans rfl⟩ (fun hHeld => ?_); refine with_tabW impl_BlockOk.tab1 impl_BlockOk.bits1 (fun HT_ HW_ => ?_)
   generalize w11.drew = w12 at BK105 HB hHeld ⊢
   refine pu 0 3 (bm 17 1) ?_
   refine tk 1 4 (bm 17 3) ?_
   refine on 2 (some 5) (bm 17 7) (fun K hK => ?_)
   refine gs Try.func46 #[.int .i64 a0_0] ?_
   with_reducible refine (impl_isAddr.calls a0_0 true _ A2.out).mono ?_
   rintro e w' ⟨rfl, ⟨nd, rfl⟩⟩
   refine ⟨_, rfl, ?_⟩
   refine hK.out _ _ ⟨(blk_cell BK105.out 0).trans rfl, (blk_cell BK105.out 1).trans rfl⟩ (fun hHeld => ?_)
   clear hK K
   refine nm 5 ?_
   refine pu 3 6 (bm 17 15) ?_
   refine pu 4 7 (bm 17 31) ?_
   refine tk 5 8 (bm 17 63) ?_
   refine on 6 (some 9) (bm 17 127) (fun K hK => ?_)
   refine gs Try.func83 #[.int .i64 a0_1, .int .i64 0, .int .i64 32] ?_
   with_reducible refine (impl_in.calls a0_1 0 32 false _ A4.out).mono ?_
   rintro e w' ⟨rfl, ⟨nd, rfl⟩⟩
   refine ⟨_, rfl, ?_⟩
   refine hK.out _ _ ⟨(blk_cell BK105.out 0).trans rfl, (blk_cell BK105.out 1).trans rfl⟩ (fun hHeld => ?_)
   clear hK K
   refine nm 9 ?_
   refine pu 7 10 (bm 17 255) ?_
   refine pu 8 11 (bm 17 511) ?_
   refine po 9 12 (bm 17 1023) ?_
   refine po 10 13 (bm 17 2047) ?_
   refine po 11 14 (bm 17 4095) ?_
   refine po 12 15 (bm 17 8191) ?_
   refine po 13 16 (bm 17 16383) ?_
   refine po 14 17 (bm 17 32767) ?_
   refine pu 15 18 (bm 17 65535) ?_
   refine pu 16 2 (bm 17 131071) ?_
   refine done_ (done_of HT_.out (by kernel_rfl)) ?_
   try go_wp2
   go_ret
   exact ⟨zz8, zz6 GE105⟩
 ·replace c3 := Bool.eq_false_iff.mpr c3
  subst c3
  have H1 : (some false) = some r := by rw [if_neg (show ¬ (false = true) by decide)] at H; exact H
  clear H
  have H := H1
  clear H1
  obtain rfl := Option.some.inj H
  go_enter Try.func68, Try.ntmps68
  try go_wp2_with (first | (refine be 1 #[.int .i64 a0_0, .int .i64 a0_1] 40 ?_; intro gb105 hg w13 hbox hb; have BK105 := Aside0.mk hbox; have GW105 := Aside0.mk (zz4 : w.heap.size ≤ gb105); have GE105 := Aside0.mk (zz4 : w.heap.size ≤ gb105); replace HB := Aside0.mk (below_step zz5 hb); clear hb hbox hg))
  replace BK105 := Aside0.mk (blk_drew BK105.out)
  replace HB := Aside0.mk (below_drew1 HB.out)
  refine start_ (n := 17) (S := fun w' => w'.cell? ⟨gb105, 0, none⟩ = some (.int .i64 a0_0) ∧ w'.cell? ⟨gb105, 1, none⟩ = some (.int .i64 a0_1)) (ds := []) (bm 17 0) (by kernel_rfl) rfl rfl ⟨(blk_cell BK105.out 0).trans rfl, (blk_cell BK105.out 1).trans rfl⟩ (fun hHeld => ?_); refine with_tabW impl_BlockOk.tab1 impl_BlockOk.bits1 (fun HT_ HW_ => ?_)
  generalize w13.drew = w14 at BK105 HB hHeld ⊢
  refine pu 0 3 (bm 17 1) ?_
  refine tk 1 4 (bm 17 3) ?_
  refine on 2 (some 5) (bm 17 7) (fun K hK => ?_)
  refine gs Try.func46 #[.int .i64 a0_0] ?_
  with_reducible refine (impl_isAddr.calls a0_0 false _ A2.out).mono ?_
  rintro e w' ⟨rfl, ⟨nd, rfl⟩⟩
  refine ⟨_, rfl, ?_⟩
  refine hK.out _ _ ⟨(blk_cell BK105.out 0).trans rfl, (blk_cell BK105.out 1).trans rfl⟩ (fun hHeld => ?_)
  clear hK K
  refine nm 5 ?_
  refine pu 3 6 (bm 17 15) ?_
  refine po 4 7 (bm 17 31) ?_
  refine po 5 8 (bm 17 63) ?_
  refine po 6 9 (bm 17 127) ?_
  refine pu 7 10 (bm 17 255) ?_
  refine pu 8 11 (bm 17 511) ?_
  refine po 9 12 (bm 17 1023) ?_
  refine po 10 13 (bm 17 2047) ?_
  refine po 11 14 (bm 17 4095) ?_
  refine po 12 15 (bm 17 8191) ?_
  refine po 13 16 (bm 17 16383) ?_
  refine po 14 17 (bm 17 32767) ?_
  refine pu 15 18 (bm 17 65535) ?_
  refine pu 16 2 (bm 17 131071) ?_
  refine done_ (done_of HT_.out (by kernel_rfl)) ?_
  try go_wp2
  go_ret
  exact ⟨zz8, zz6 GE105⟩
def impl_blocksOk_1.f (a0_0 : Int) (a0_1 : Int) : Option (Bool) := (impl_BlockOk.f a0_0 a0_1).bind fun t110 => (some (!t110))
set_option maxHeartbeats 8000000 in
set_option maxRecDepth 100000 in
theorem impl_blocksOk_1.calls (a0_0 : Int) (a0_1 : Int) (r : Bool) (w : World) (h : impl_blocksOk_1.f a0_0 a0_1 = some r) :
  Calls Try.prog 91 #[.agg #[.int .i64 a0_0, .int .i64 a0_1]] w fun e w' => e = .returned (.bool r) ∧ Below w.heap.size w w' := by
 have hu40 := Try.underlying40
 have HB := Aside0.mk (Below.refl w.heap.size w)
 have H : ((impl_BlockOk.f a0_0 a0_1).bind fun t110 => (some (!t110))) = some r := h
 clear h
 replace H := bd H
 obtain ⟨t110, A2, H⟩ := H
 replace H : (some (!t110)) = some r := H
 obtain rfl := Option.some.inj H
 go_enter Try.func91, Try.ntmps91
 go_wp2_with (first | (refine be 1 #[.int .i64 a0_0, .int .i64 a0_1] 40 ?_; intro gb109 hg w3 hbox hb; have BK109 := Aside0.mk hbox; have GW109 := Aside0.mk (zz4 : w.heap.size ≤ gb109); have GE109 := Aside0.mk (zz4 : w.heap.size ≤ gb109); replace HB := Aside0.mk (below_step zz5 hb); clear hb hbox hg; have hcz4_0 : w3.cell? ⟨gb109, 0, none⟩ = some (.int .i64 a0_0) := (blk_cell BK109.out 0).trans rfl; have hcz4_1 : w3.cell? ⟨gb109, 1, none⟩ = some (.int .i64 a0_1) := (blk_cell BK109.out 1).trans rfl; have hfz4_0 := blk_frozen BK109.out 0; have hfz4_1 := blk_frozen BK109.out 1) | (refine gc (some 4) Try.func68 #[.agg #[.int .i64 a0_0, .int .i64 a0_1]] ?_; (with_reducible refine (impl_BlockOk.calls a0_0 a0_1 t110 _ A2.out).mono ?_); rintro e w5 ⟨rfl, hb⟩; refine ⟨_, rfl, ?_⟩; replace BK109 := Aside0.mk (blk_below (g := gb109) (o := .cells #[.int .i64 a0_0, .int .i64 a0_1] 40 (0, 0)) (zz7 BK109) hb); replace HB := Aside0.mk (below_step (zz6 GE109) hb); clear hb))
 go_ret
 exact ⟨zz8, zz6 GE109⟩
def impl_Block_92_91.l0 : Nat → List (S40) → Int → Int → Option (Int)
 | 0, _, _, _ => none
 | k + 1, x0, x7, x8 => if x8 < x7 then (if 0 ≤ x8 then (if x8 < (x0.length : Int) then ((impl_blocksOk_1.f ((rd_T40 x0 x8).f0) ((rd_T40 x0 x8).f1)).bind fun t112 => (if t112 = true then (some x8) else (impl_Block_92_91.l0 k x0 x7 (wrap64 (x8 + 1))))) else (none)) else (none)) else (some (-1))
def impl_Block_92_91.f (k : Nat) (l0 : List (S40))  : Option (Int) := impl_Block_92_91.l0 k l0 (l0.length : Int) 0
set_option maxHeartbeats 8000000 in
set_option maxRecDepth 100000 in
theorem impl_Block_92_91.calls (k : Nat) (A0 : Option Addr) (c0 : Nat) (l0 : List (S40))  (r : Int) (w : World) (hr0 : Kd.C k40 w A0 l0.length l0) (hc0 : l0.length ≤ c0) (h : impl_Block_92_91.f k l0 = some r) :
  Calls Try.prog 92 #[.slice A0 l0.length c0, .func (.func 91) #[] #[]] w fun e w' => e = .returned (.int .i64 r) ∧ Below w.heap.size w w' := by
 have hu40 := Try.underlying40
 have HR0 := Aside0.mk hr0
 have HC0 := Aside0.mk hc0
 clear hr0 hc0
 have HB := Aside0.mk (Below.refl w.heap.size w)
 have H : (impl_Block_92_91.l0 k l0 (l0.length : Int) 0) = some r := h
 clear h
 have H' := Aside0.mk H
 clear H
 go_enter Try.func92, Try.ntmps92
 go_wp2
 go_loopg [8] k (fun kq v8 w' => ∃ (x8_1 : Int), v8 = .int .i64 x8_1 ∧ Aside0 (impl_Block_92_91.l0 kq l0 (l0.length : Int) x8_1 = some r) ∧ Aside0 (kq ≤ k) ∧ Aside0 (Below w.heap.size w w'))
 case atStart => exact ⟨(0), zz1, H', ⟨Nat.le_refl _⟩, ⟨zz5⟩⟩
 case round =>
  clear H'
  try clear p2
  obtain ⟨x8_1, rfl, HA, HK1, HB⟩ := hrel
  cases gk with
  | zero => exact absurd HA.out (by simp [impl_Block_92_91.l0])
  | succ k1 =>
   have H := HA.out
   clear HA
   simp only [impl_Block_92_91.l0] at H
   replace H := ic H
   rcases H with ⟨c3b0, H⟩ | ⟨c3b0, H⟩
   ·replace H := gd H
    obtain ⟨c4b0, H⟩ := H
    replace H := gd H
    obtain ⟨c5b0, H⟩ := H
    replace H := bd H
    obtain ⟨t112, A6, H⟩ := H
    replace H : (if t112 = true then (some x8_1) else (impl_Block_92_91.l0 k1 l0 (l0.length : Int) (wrap64 (x8_1 + 1)))) = some r := H
    by_cases c7 : t112 = true
    ·subst c7
     have H1 : (some x8_1) = some r := by rw [if_pos rfl] at H; exact H
     clear H
     have H := H1
     clear H1
     obtain rfl := Option.some.inj H
     obtain ⟨⟨ad111, e111, hx111_0, hx111_1⟩, p111, q111⟩ := wi (at_T40 HR0.out x8_1)
     cases e111
     replace hx111_0 := (HB.out.cell (World.block_lt_of_cell? w _ hx111_0)).trans hx111_0
     replace hx111_1 := (HB.out.cell (World.block_lt_of_cell? w _ hx111_1)).trans hx111_1
     go_wp2_with (first | (go_at_call 91; (with_reducible refine (impl_blocksOk_1.calls ((rd_T40 l0 x8_1).f0) ((rd_T40 l0 x8_1).f1) true _ A6.out).mono ?_); rintro e w8 ⟨rfl, hb⟩; replace HB := Aside0.mk (below_step zz5 hb); clear hb))
     go_ret
     exact ⟨zz8, zz5⟩
    ·replace c7 := Bool.eq_false_iff.mpr c7
     subst c7
     have H1 : (impl_Block_92_91.l0 k1 l0 (l0.length : Int) (wrap64 (x8_1 + 1))) = some r := by rw [if_neg (show ¬ (false = true) by decide)] at H; exact H
     clear H
     have H := H1
     clear H1
     have H' := Aside0.mk H
     clear H
     obtain ⟨⟨ad111, e111, hx111_0, hx111_1⟩, p111, q111⟩ := wi (at_T40 HR0.out x8_1)
     cases e111
     replace hx111_0 := (HB.out.cell (World.block_lt_of_cell? w _ hx111_0)).trans hx111_0
     replace hx111_1 := (HB.out.cell (World.block_lt_of_cell? w _ hx111_1)).trans hx111_1
     go_wp2_with (first | (go_at_call 91; (with_reducible refine (impl_blocksOk_1.calls ((rd_T40 l0 x8_1).f0) ((rd_T40 l0 x8_1).f1) false _ A6.out).mono ?_); rintro e w9 ⟨rfl, hb⟩; replace HB := Aside0.mk (below_step zz5 hb); clear hb))
     go_roundg k1
     case measure => have := HK1.out; omega
     case rel => exact ⟨(wrap64 (x8_1 + 1)), zz1, H', ⟨zz3 HK1⟩, ⟨zz5⟩⟩
   ·obtain rfl := Option.some.inj H
    go_wp2
    go_ret
    exact ⟨zz8, zz5⟩
end Go.Proofs.Ythkjkmgbdahggaa.PL
