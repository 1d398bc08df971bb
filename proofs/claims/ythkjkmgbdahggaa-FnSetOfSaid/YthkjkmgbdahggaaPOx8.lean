/- A text printed by this session's wip/myprint.py over the kit's print: contracts of functions of the given program, each at what its Lean function says. -/
import Derived.Test.YthkjkmgbdahggaaPOx0
import Derived.Test.YthkjkmgbdahggaaPOx7
namespace Go.Proofs.Ythkjkmgbdahggaa.PO
open Go.RowKit Go.Proofs.YthkjkmgbdahggaaW.PrintWords Go.Proofs.YthkjkmgbdahggaaW.PrintLast Go.Proofs.YthkjkmgbdahggaaW.PrintMore Go.Proofs.Ythkjkmgbdahggaa.Sq
attribute [local go_sem] max2_int min2_int max_two min_two max_three min_three max_four min_four   -- for this text's walks alone
set_option linter.unusedVariables false
set_option linter.unusedSimpArgs false

/-! ### spec_l1Rd_pick: function 44 -/
def spec_l1Rd_pick.j0 : Nat → Int → Bool → List Int → Int → Option (Int × Int)
 | 0, _, _, _, _ => none
 | k + 1, x1, x24, x1000, x1001 => if x24 = true then (some (0, x1001)) else (if (wrap64 (x1001 - 1)) < (x1000.length : Int) then (if 0 ≤ (wrap64 (x1001 - 1)) then (if x1 = 0 then (none) else (some (Int.tmod (wrap64 (rd x1000 (wrap64 (x1001 - 1)))) x1, x1001))) else (none)) else (if (x1000.length : Int) = 0 then (none) else (if 0 ≤ (Int.tmod (wrap64 (x1001 - 1)) (x1000.length : Int)) then (if (Int.tmod (wrap64 (x1001 - 1)) (x1000.length : Int)) < (x1000.length : Int) then (if 0 ≤ (Int.tmod (wrap64 ((wrap64 ((wrap64 (x1001 - 1)) * 7)) + 3)) (x1000.length : Int)) then (if (Int.tmod (wrap64 ((wrap64 ((wrap64 (x1001 - 1)) * 7)) + 3)) (x1000.length : Int)) < (x1000.length : Int) then (if x1 = 0 then (none) else (some (Int.tmod (Go.bits .xor .i64 (wrap64 ((wrap64 ((wrap64 ((wrap64 ((wrap64 (rd x1000 (Int.tmod (wrap64 (x1001 - 1)) (x1000.length : Int)))) * 131)) + (wrap64 ((wrap64 (rd x1000 (Int.tmod (wrap64 ((wrap64 ((wrap64 (x1001 - 1)) * 7)) + 3)) (x1000.length : Int)))) * 1117)))) + (wrap64 ((wrap64 (x1001 - 1)) * 29)))) + (wrap64 ((wrap64 (Int.tdiv (wrap64 (x1001 - 1)) (x1000.length : Int))) * 53)))) (wrap64 (Int.tdiv (wrap64 ((wrap64 ((wrap64 ((wrap64 ((wrap64 (rd x1000 (Int.tmod (wrap64 (x1001 - 1)) (x1000.length : Int)))) * 131)) + (wrap64 ((wrap64 (rd x1000 (Int.tmod (wrap64 ((wrap64 ((wrap64 (x1001 - 1)) * 7)) + 3)) (x1000.length : Int)))) * 1117)))) + (wrap64 ((wrap64 (x1001 - 1)) * 29)))) + (wrap64 ((wrap64 (Int.tdiv (wrap64 (x1001 - 1)) (x1000.length : Int))) * 53)))) 64))) x1, x1001))) else (none)) else (none)) else (none)) else (none))))
def spec_l1Rd_pick.f (k : Nat) (s0_0 : List Int) (s0_1 : Int) (a1 : Int) : Option (Int × Int) := if a1 < 1 then (spec_l1Rd_pick.j0 k a1 true s0_0 (wrap64 (s0_1 + 1))) else (spec_l1Rd_pick.j0 k a1 ((s0_0.length : Int) == 0) s0_0 (wrap64 (s0_1 + 1)))
theorem spec_l1Rd_pick.mono_l : ∀ k, (∀ y0 y1 y2 y3, LeO (spec_l1Rd_pick.j0 k y0 y1 y2 y3) (spec_l1Rd_pick.j0 (k + 1) y0 y1 y2 y3))
 | 0 => fun _ _ _ _ r h => by simp [spec_l1Rd_pick.j0] at h
 | k + 1 => by
  have ih0 := spec_l1Rd_pick.mono_l k
  ·intro y0 y1 y2 y3
   unfold spec_l1Rd_pick.j0
   repeat' first
   | (with_reducible exact ih0 _ _ _ _)
   | (with_reducible exact LeO.refl _)
   | (with_reducible exact LeO.none _)
   | (with_reducible refine LeO.ite ?_ ?_)
   | (with_reducible refine LeO.bind ?_ (fun _ => ?_))
   | exact ih0 _ _ _ _
   | exact LeO.none _
   | refine LeO.ite ?_ ?_
   | refine LeO.bind ?_ (fun _ => ?_)
theorem spec_l1Rd_pick.mono : ∀ a0 a1 a2 k, LeO (spec_l1Rd_pick.f k a0 a1 a2) (spec_l1Rd_pick.f (k + 1) a0 a1 a2) := by
 intro a0 a1 a2 k
 have ih0 := spec_l1Rd_pick.mono_l k
 unfold spec_l1Rd_pick.f
 repeat' first
   | (with_reducible exact ih0 _ _ _ _)
   | (with_reducible exact LeO.refl _)
   | (with_reducible exact LeO.none _)
   | (with_reducible refine LeO.ite ?_ ?_)
   | (with_reducible refine LeO.bind ?_ (fun _ => ?_))
   | exact ih0 _ _ _ _
   | exact LeO.none _
   | refine LeO.ite ?_ ?_
   | refine LeO.bind ?_ (fun _ => ?_)
set_option maxHeartbeats 8000000 in
set_option maxRecDepth 100000 in
theorem spec_l1Rd_pick.calls (k : Nat) (g : Nat) (s0_0 : List Int) (s0_1 : Int) (a1 : Int) (r1 : Int) (r2 : Int) (w0 w : World) (hI : IsS103 w0 w g s0_0 s0_1) (hB : Below w0.heap.size w0 w) (h : spec_l1Rd_pick.f k s0_0 s0_1 a1 = some (r1, r2)) :
  Calls Try.prog 44 #[.pointer (some ⟨g, 0, none⟩), .int .i64 a1] w fun e w' => e = .returned (.int .i64 r1) ∧ IsS103 w0 w' g s0_0 r2 ∧ Below w0.heap.size w0 w' ∧ KeepBut w w' g none := by
 have HI0 := Aside0.mk hI
 have HK := Aside0.mk (KeepBut.refl w g none)
 have HL := Aside0.mk hB.size
 clear hI
 have HW0 := Aside0.mk hB.size
 have HB := Aside0.mk hB
 clear hB
 have H : (if a1 < 1 then (spec_l1Rd_pick.j0 k a1 true s0_0 (wrap64 (s0_1 + 1))) else (spec_l1Rd_pick.j0 k a1 ((s0_0.length : Int) == 0) s0_0 (wrap64 (s0_1 + 1)))) = some (r1, r2) := h
 clear h
 have HC3 := Aside0.mk H
 clear H
 obtain ⟨ASz4_0, cSz4_0, HGz4, hgz4, HSz4_0⟩ := HI0.out
 have hcz4_0 := cellS103_0 HGz4
 have hcz4_1 := cellS103_1 HGz4
 have hfz4_1 := blk_frozen HGz4 1
 clear HGz4 hgz4
 go_enter Try.func44, Try.ntmps44
 go_upto_region 2 with (fail)
 repeat (go_quiet (fail); go_upto_region 2 with (fail))
 go_cut [24] (fun v24 wc => ∃ (kq : Nat) (x24_2 : Bool), v24 = .bool x24_2 ∧ Aside0 (spec_l1Rd_pick.j0 kq a1 x24_2 s0_0 (wrap64 (s0_1 + 1)) = some (r1, r2)) ∧ Aside0 (kq ≤ k) ∧ Aside0 (IsS103 w0 wc g s0_0 (wrap64 (s0_1 + 1))) ∧ Aside0 (KeepBut w wc g none) ∧ Aside0 (Below w0.heap.size w0 wc))
 case first =>
  have H := HC3.out
  clear HC3
  replace H := ic H
  rcases H with ⟨c5b0, H⟩ | ⟨c5b0, H⟩
  ·(first | rw [c5b0] | (simp only [i64_w, i32_w]; rw [c5b0]) | skip)
   have H' := Aside0.mk H
   clear H
   go_wp2
   repeat (go_quiet (fail); try go_wp2)
   go_meet
   case rel => exact ⟨_, (true), zz1, H', ⟨zz25⟩, ⟨zz26 HI0⟩, ⟨zz27⟩, ⟨zz28 HI0⟩⟩
  ·(first | rw [c5b0] | (simp only [i64_w, i32_w]; rw [c5b0]) | skip)
   have H' := Aside0.mk H
   clear H
   obtain ⟨ASz6_0, cSz6_0, HGz6, hgz6, HSz6_0⟩ := HI0.out
   have hcz6_0 := cellS103_0 HGz6
   have hcz6_1 := cellS103_1 HGz6
   have hfz6_1 := blk_frozen HGz6 1
   clear HGz6 hgz6
   go_wp2
   repeat (go_quiet (fail); try go_wp2)
   go_meet
   case rel => exact ⟨_, (((s0_0.length : Int) == 0)), zz1, H', ⟨zz25⟩, ⟨zz26 HI0⟩, ⟨zz27⟩, ⟨zz28 HI0⟩⟩
 case rest =>
  clear HC3
  try clear p2
  try clear c4
  try clear c5
  try clear c5b0
  try clear p6
  try clear hcz4_0
  try clear hcz4_1
  try clear hcz6_0
  try clear hcz6_1
  try clear hfz4_1
  try clear hfz6_1
  obtain ⟨kq, x24_2, rfl, HA, HJ2, HI0, HK, HB⟩ := hcut
  cases kq with
  | zero => exact absurd HA.out (by simp [spec_l1Rd_pick.j0])
  | succ kj2 =>
   have H := HA.out
   clear HA
   simp only [spec_l1Rd_pick.j0] at H
   by_cases c7 : x24_2 = true
   ·subst c7
    have H1 : (some (0, (wrap64 (s0_1 + 1)))) = some (r1, r2) := by rw [if_pos rfl] at H; exact H
    clear H
    have H := H1
    clear H1
    simp only [Option.some.injEq, Prod.mk.injEq] at H
    obtain ⟨rfl, rfl⟩ := H
    go_wp2
    repeat (go_quiet (fail); try go_wp2)
    go_ret
    exact ⟨zz8, zz26 HI0, zz28 HI0, zz27⟩
   ·replace c7 := Bool.eq_false_iff.mpr c7
    subst c7
    have H1 : (if (wrap64 ((wrap64 (s0_1 + 1)) - 1)) < (s0_0.length : Int) then (if 0 ≤ (wrap64 ((wrap64 (s0_1 + 1)) - 1)) then (if a1 = 0 then (none) else (some (Int.tmod (wrap64 (rd s0_0 (wrap64 ((wrap64 (s0_1 + 1)) - 1)))) a1, (wrap64 (s0_1 + 1))))) else (none)) else (if (s0_0.length : Int) = 0 then (none) else (if 0 ≤ (Int.tmod (wrap64 ((wrap64 (s0_1 + 1)) - 1)) (s0_0.length : Int)) then (if (Int.tmod (wrap64 ((wrap64 (s0_1 + 1)) - 1)) (s0_0.length : Int)) < (s0_0.length : Int) then (if 0 ≤ (Int.tmod (wrap64 ((wrap64 ((wrap64 ((wrap64 (s0_1 + 1)) - 1)) * 7)) + 3)) (s0_0.length : Int)) then (if (Int.tmod (wrap64 ((wrap64 ((wrap64 ((wrap64 (s0_1 + 1)) - 1)) * 7)) + 3)) (s0_0.length : Int)) < (s0_0.length : Int) then (if a1 = 0 then (none) else (some (Int.tmod (Go.bits .xor .i64 (wrap64 ((wrap64 ((wrap64 ((wrap64 ((wrap64 (rd s0_0 (Int.tmod (wrap64 ((wrap64 (s0_1 + 1)) - 1)) (s0_0.length : Int)))) * 131)) + (wrap64 ((wrap64 (rd s0_0 (Int.tmod (wrap64 ((wrap64 ((wrap64 ((wrap64 (s0_1 + 1)) - 1)) * 7)) + 3)) (s0_0.length : Int)))) * 1117)))) + (wrap64 ((wrap64 ((wrap64 (s0_1 + 1)) - 1)) * 29)))) + (wrap64 ((wrap64 (Int.tdiv (wrap64 ((wrap64 (s0_1 + 1)) - 1)) (s0_0.length : Int))) * 53)))) (wrap64 (Int.tdiv (wrap64 ((wrap64 ((wrap64 ((wrap64 ((wrap64 (rd s0_0 (Int.tmod (wrap64 ((wrap64 (s0_1 + 1)) - 1)) (s0_0.length : Int)))) * 131)) + (wrap64 ((wrap64 (rd s0_0 (Int.tmod (wrap64 ((wrap64 ((wrap64 ((wrap64 (s0_1 + 1)) - 1)) * 7)) + 3)) (s0_0.length : Int)))) * 1117)))) + (wrap64 ((wrap64 ((wrap64 (s0_1 + 1)) - 1)) * 29)))) + (wrap64 ((wrap64 (Int.tdiv (wrap64 ((wrap64 (s0_1 + 1)) - 1)) (s0_0.length : Int))) * 53)))) 64))) a1, (wrap64 (s0_1 + 1))))) else (none)) else (none)) else (none)) else (none)))) = some (r1, r2) := by rw [if_neg (show ¬ (false = true) by decide)] at H; exact H
    clear H
    have H := H1
    clear H1
    replace H := ic H
    rcases H with ⟨c8b0, H⟩ | ⟨c8b0, H⟩
    ·obtain ⟨ji9, hji9⟩ : ∃ j_ : Int, (wrap64 ((wrap64 (s0_1 + 1)) - 1)) = j_ := ⟨_, rfl⟩
     replace H : (if 0 ≤ (ji9) then (if a1 = 0 then (none) else (some (Int.tmod (wrap64 (rd s0_0 (ji9))) a1, (wrap64 (s0_1 + 1))))) else (none)) = some (r1, r2) := by first | (rw [hji9] at H; exact H) | (simp only [hji9] at H ⊢; exact H)
     (try rw [hji9] at c8b0)
     have hji9w : (IntKind.i64.wrap ((wrap64 (s0_1 + 1)) - 1)) = ji9 := (i64_w _).trans hji9
     replace H := gd H
     obtain ⟨c10b0, H⟩ := H
     replace H := gn H
     obtain ⟨c11, H⟩ := H
     have c11b0 : (a1 == 0) = false := beq_eq_false_iff_ne.mpr c11
     have c11b1 : (a1 != 0) = true := bne_iff_ne.mpr c11
     simp only [Option.some.injEq, Prod.mk.injEq] at H
     obtain ⟨rfl, rfl⟩ := H
     obtain ⟨ASz12_0, cSz12_0, HGz12, hgz12, HSz12_0⟩ := HI0.out
     have hcz12_0 := cellS103_0 HGz12
     have hcz12_1 := cellS103_1 HGz12
     have hfz12_1 := blk_frozen HGz12 1
     clear HGz12 hgz12
     have p197 : 0 ≤ ((ji9) : Int) := da
     have q197 : (ji9) < (s0_0.length : Int) := da
     obtain ⟨ad197, e197, hx197_0⟩ := Kd.at_int HSz12_0 (ji9) p197 q197
     cases e197
     replace hx197_0 := pw_cell_below HB.out hx197_0
     replace p197 := eq_true p197
     replace q197 := eq_true q197
     go_wp2
     repeat (go_quiet (fail); try go_wp2)
     go_ret
     exact ⟨by first | rfl | (simp [errW_none, errW_some] <;> rfl) | (simp only [← hji9]; first | rfl | (simp [errW_none, errW_some] <;> rfl)) | (simp [*, errW_none, errW_some] <;> rfl), zz26 HI0, zz28 HI0, zz27⟩
    ·replace H := gn H
     obtain ⟨c13, H⟩ := H
     have c13b0 : ((s0_0.length : Int) == 0) = false := beq_eq_false_iff_ne.mpr c13
     have c13b1 : ((s0_0.length : Int) != 0) = true := bne_iff_ne.mpr c13
     have c13b2 : ¬ (s0_0 = []) := fun h_ => c13 (by rw [h_]; rfl)
     obtain ⟨ji14, hji14⟩ : ∃ j_ : Int, (Int.tmod (wrap64 ((wrap64 (s0_1 + 1)) - 1)) (s0_0.length : Int)) = j_ := ⟨_, rfl⟩
     replace H : (if 0 ≤ (ji14) then (if (ji14) < (s0_0.length : Int) then (if 0 ≤ (Int.tmod (wrap64 ((wrap64 ((wrap64 ((wrap64 (s0_1 + 1)) - 1)) * 7)) + 3)) (s0_0.length : Int)) then (if (Int.tmod (wrap64 ((wrap64 ((wrap64 ((wrap64 (s0_1 + 1)) - 1)) * 7)) + 3)) (s0_0.length : Int)) < (s0_0.length : Int) then (if a1 = 0 then (none) else (some (Int.tmod (Go.bits .xor .i64 (wrap64 ((wrap64 ((wrap64 ((wrap64 ((wrap64 (rd s0_0 (ji14))) * 131)) + (wrap64 ((wrap64 (rd s0_0 (Int.tmod (wrap64 ((wrap64 ((wrap64 ((wrap64 (s0_1 + 1)) - 1)) * 7)) + 3)) (s0_0.length : Int)))) * 1117)))) + (wrap64 ((wrap64 ((wrap64 (s0_1 + 1)) - 1)) * 29)))) + (wrap64 ((wrap64 (Int.tdiv (wrap64 ((wrap64 (s0_1 + 1)) - 1)) (s0_0.length : Int))) * 53)))) (wrap64 (Int.tdiv (wrap64 ((wrap64 ((wrap64 ((wrap64 ((wrap64 (rd s0_0 (ji14))) * 131)) + (wrap64 ((wrap64 (rd s0_0 (Int.tmod (wrap64 ((wrap64 ((wrap64 ((wrap64 (s0_1 + 1)) - 1)) * 7)) + 3)) (s0_0.length : Int)))) * 1117)))) + (wrap64 ((wrap64 ((wrap64 (s0_1 + 1)) - 1)) * 29)))) + (wrap64 ((wrap64 (Int.tdiv (wrap64 ((wrap64 (s0_1 + 1)) - 1)) (s0_0.length : Int))) * 53)))) 64))) a1, (wrap64 (s0_1 + 1))))) else (none)) else (none)) else (none)) else (none)) = some (r1, r2) := by first | (rw [hji14] at H; exact H) | (simp only [hji14] at H ⊢; exact H)
     by_cases c15 : 0 ≤ (ji14)
     ·rw [if_pos c15] at H
      have c15b0 : decide (0 ≤ (ji14)) = true := decide_eq_true c15
      clear c15
      replace H := gd H
      obtain ⟨c16b0, H⟩ := H
      obtain ⟨ji17, hji17⟩ : ∃ j_ : Int, (Int.tmod (wrap64 ((wrap64 ((wrap64 ((wrap64 (s0_1 + 1)) - 1)) * 7)) + 3)) (s0_0.length : Int)) = j_ := ⟨_, rfl⟩
      replace H : (if 0 ≤ (ji17) then (if (ji17) < (s0_0.length : Int) then (if a1 = 0 then (none) else (some (Int.tmod (Go.bits .xor .i64 (wrap64 ((wrap64 ((wrap64 ((wrap64 ((wrap64 (rd s0_0 (ji14))) * 131)) + (wrap64 ((wrap64 (rd s0_0 (ji17))) * 1117)))) + (wrap64 ((wrap64 ((wrap64 (s0_1 + 1)) - 1)) * 29)))) + (wrap64 ((wrap64 (Int.tdiv (wrap64 ((wrap64 (s0_1 + 1)) - 1)) (s0_0.length : Int))) * 53)))) (wrap64 (Int.tdiv (wrap64 ((wrap64 ((wrap64 ((wrap64 ((wrap64 (rd s0_0 (ji14))) * 131)) + (wrap64 ((wrap64 (rd s0_0 (ji17))) * 1117)))) + (wrap64 ((wrap64 ((wrap64 (s0_1 + 1)) - 1)) * 29)))) + (wrap64 ((wrap64 (Int.tdiv (wrap64 ((wrap64 (s0_1 + 1)) - 1)) (s0_0.length : Int))) * 53)))) 64))) a1, (wrap64 (s0_1 + 1))))) else (none)) else (none)) = some (r1, r2) := by first | (rw [hji17] at H; exact H) | (simp only [hji17] at H ⊢; exact H)
      replace H := gd H
      obtain ⟨c18b0, H⟩ := H
      replace H := gd H
      obtain ⟨c19b0, H⟩ := H
      replace H := gn H
      obtain ⟨c20, H⟩ := H
      have c20b0 : (a1 == 0) = false := beq_eq_false_iff_ne.mpr c20
      have c20b1 : (a1 != 0) = true := bne_iff_ne.mpr c20
      simp only [Option.some.injEq, Prod.mk.injEq] at H
      obtain ⟨rfl, rfl⟩ := H
      obtain ⟨ASz21_0, cSz21_0, HGz21, hgz21, HSz21_0⟩ := HI0.out
      have hcz21_0 := cellS103_0 HGz21
      have hcz21_1 := cellS103_1 HGz21
      have hfz21_1 := blk_frozen HGz21 1
      clear HGz21 hgz21
      have p198 : 0 ≤ ((ji14) : Int) := da
      have q198 : (ji14) < (s0_0.length : Int) := da
      obtain ⟨ad198, e198, hx198_0⟩ := Kd.at_int HSz21_0 (ji14) p198 q198
      cases e198
      replace hx198_0 := pw_cell_below HB.out hx198_0
      replace p198 := eq_true p198
      replace q198 := eq_true q198
      have p199 : 0 ≤ ((ji17) : Int) := da
      have q199 : (ji17) < (s0_0.length : Int) := da
      obtain ⟨ad199, e199, hx199_0⟩ := Kd.at_int HSz21_0 (ji17) p199 q199
      obtain rfl : ad198 = ad199 := (by injection e199)
      replace hx199_0 := pw_cell_below HB.out hx199_0
      replace p199 := eq_true p199
      replace q199 := eq_true q199
      go_wp2
      repeat (go_quiet (fail); try go_wp2)
      go_ret
      exact ⟨by first | rfl | (simp [errW_none, errW_some] <;> rfl) | (simp only [← hji14, ← hji17]; first | rfl | (simp [errW_none, errW_some] <;> rfl)) | (simp [*, errW_none, errW_some] <;> rfl), zz26 HI0, zz28 HI0, zz27⟩
     ·rw [if_neg c15] at H
      exact absurd H (by simp)

/-! ### spec_l1Rd_one: function 45 -/
def spec_l1Rd_one.f (k : Nat) (s0_0 : List Int) (s0_1 : Int) (l1 : List Int) : Option (Int × Int) := (spec_l1Rd_pick.f k s0_0 s0_1 (l1.length : Int)).bind fun bt200 => (if 0 ≤ bt200.1 then (if bt200.1 < (l1.length : Int) then (some (rd l1 bt200.1, bt200.2)) else (none)) else (none))
theorem spec_l1Rd_one.mono : ∀ a0 a1 a2 k, LeO (spec_l1Rd_one.f k a0 a1 a2) (spec_l1Rd_one.f (k + 1) a0 a1 a2) := by
 intro a0 a1 a2 k
 unfold spec_l1Rd_one.f
 repeat' first
   | (with_reducible exact spec_l1Rd_pick.mono _ _ _ _)
   | (with_reducible exact LeO.refl _)
   | (with_reducible exact LeO.none _)
   | (with_reducible refine LeO.ite ?_ ?_)
   | (with_reducible refine LeO.bind ?_ (fun _ => ?_))
   | exact spec_l1Rd_pick.mono _ _ _ _
   | exact LeO.none _
   | refine LeO.ite ?_ ?_
   | refine LeO.bind ?_ (fun _ => ?_)
set_option maxHeartbeats 8000000 in
set_option maxRecDepth 100000 in
theorem spec_l1Rd_one.calls (k : Nat) (g : Nat) (s0_0 : List Int) (s0_1 : Int) (A1 : Option Addr) (c1 : Nat) (l1 : List Int) (r1 : Int) (r2 : Int) (w0 w : World) (hI : IsS103 w0 w g s0_0 s0_1) (hB : Below w0.heap.size w0 w) (hr1 : Kd.C (Kd.int .i64) w A1 l1.length l1) (hc1 : l1.length ≤ c1) (hf1 : ∀ ad, A1 = some ad → 0 < l1.length → ad.block ≠ g) (h : spec_l1Rd_one.f k s0_0 s0_1 l1 = some (r1, r2)) :
  Calls Try.prog 45 #[.pointer (some ⟨g, 0, none⟩), .slice A1 l1.length c1] w fun e w' => e = .returned (.int .i64 r1) ∧ IsS103 w0 w' g s0_0 r2 ∧ Below w0.heap.size w0 w' ∧ KeepBut w w' g none := by
 have HR1 := Aside0.mk hr1
 have HC1 := Aside0.mk hc1
 clear hr1 hc1
 have HI0 := Aside0.mk hI
 have HK := Aside0.mk (KeepBut.refl w g none)
 have HL := Aside0.mk hB.size
 clear hI
 have HW0 := Aside0.mk hB.size
 have HB := Aside0.mk hB
 clear hB
 have H : ((spec_l1Rd_pick.f k s0_0 s0_1 (l1.length : Int)).bind fun bt200 => (if 0 ≤ bt200.1 then (if bt200.1 < (l1.length : Int) then (some (rd l1 bt200.1, bt200.2)) else (none)) else (none))) = some (r1, r2) := h
 clear h
 replace H := bd H
 obtain ⟨⟨t200, t201⟩, A3, H⟩ := H
 replace H : (if 0 ≤ t200 then (if t200 < (l1.length : Int) then (some (rd l1 t200, t201)) else (none)) else (none)) = some (r1, r2) := H
 by_cases c4 : 0 ≤ t200
 ·rw [if_pos c4] at H
  have c4b0 : decide (0 ≤ t200) = true := decide_eq_true c4
  clear c4
  replace H := gd H
  obtain ⟨c5b0, H⟩ := H
  simp only [Option.some.injEq, Prod.mk.injEq] at H
  obtain ⟨rfl, rfl⟩ := H
  go_enter Try.func45, Try.ntmps45
  go_wp2_with (first | (refine gc (some 9) Try.func44 #[.pointer (some ⟨g, 0, none⟩), .int .i64 (l1.length : Int)] ?_; (with_reducible refine (spec_l1Rd_pick.calls k g s0_0 s0_1 (l1.length : Int) t200 t201 w0 _ ?side1 ?side2 A3.out).mono ?_); (case side1 => exact zz26 HI0); (case side2 => exact zz28 HI0); rintro e w6 ⟨rfl, hi, hb, hk⟩; refine ⟨_, rfl, ?_⟩; replace HK := Aside0.mk (KeepBut.trans zz27 hk (.inl rfl)); replace HB := Aside0.mk hb; replace HI0 := Aside0.mk hi; clear hb hk hi; have p202 : 0 ≤ (t200 : Int) := of_decide_eq_true zz10; have q202 : t200 < (l1.length : Int) := of_decide_eq_true zz10; obtain ⟨ad202, e202, hx202_0⟩ := Kd.at_int HR1.out t200 p202 q202; cases e202; replace hx202_0 := keep_cell HK.out hx202_0 (by first | (rw [add_block]; exact hf1 _ rfl (by omega)) | exact hf1 _ rfl (by omega) | exact hf1 ad202 rfl (by omega)); replace p202 := eq_true p202; replace q202 := eq_true q202))
  go_ret
  exact ⟨zz8, zz26 HI0, zz28 HI0, zz27⟩
 ·rw [if_neg c4] at H
  exact absurd H (by simp)

/-! ### spec_l12Addr: function 88 -/
def spec_l12Addr.f (k : Nat) (s0_0 : List Int) (s0_1 : Int) : Option (Int × Int) := (spec_l1Rd_pick.f k s0_0 s0_1 256).bind fun bt203 => ((spec_l1Rd_pick.f k s0_0 bt203.2 8).bind fun bt205 => ((spec_l1Rd_pick.f k s0_0 bt205.2 16).bind fun bt207 => ((spec_l1Rd_pick.f k s0_0 bt207.2 256).bind fun bt209 => ((spec_l1Rd_pick.f k s0_0 bt209.2 64).bind fun bt211 => ((spec_l1Rd_one.f k s0_0 bt211.2 (([wrap64 (167772160 + bt203.1), wrap64 (167772160 + bt205.1), wrap64 (167772416 + bt207.1), wrap64 (3232235520 + bt209.1), 0, 4294967295, 184549375, wrap64 (2886729728 + (wrap64 (bt211.1 * 256)))] : List Int))).bind fun bt216 => (some (bt216.1, bt216.2)))))))
theorem spec_l12Addr.mono : ∀ a0 a1 k, LeO (spec_l12Addr.f k a0 a1) (spec_l12Addr.f (k + 1) a0 a1) := by
 intro a0 a1 k
 unfold spec_l12Addr.f
 repeat' first
   | (with_reducible exact spec_l1Rd_one.mono _ _ _ _)
   | (with_reducible exact spec_l1Rd_pick.mono _ _ _ _)
   | (with_reducible exact LeO.refl _)
   | (with_reducible exact LeO.none _)
   | (with_reducible refine LeO.ite ?_ ?_)
   | (with_reducible refine LeO.bind ?_ (fun _ => ?_))
   | exact spec_l1Rd_one.mono _ _ _ _
   | exact spec_l1Rd_pick.mono _ _ _ _
   | exact LeO.none _
   | refine LeO.ite ?_ ?_
   | refine LeO.bind ?_ (fun _ => ?_)
set_option maxHeartbeats 8000000 in
set_option maxRecDepth 100000 in
theorem spec_l12Addr.calls (k : Nat) (g : Nat) (s0_0 : List Int) (s0_1 : Int) (r1 : Int) (r2 : Int) (w0 w : World) (hI : IsS103 w0 w g s0_0 s0_1) (hB : Below w0.heap.size w0 w) (h : spec_l12Addr.f k s0_0 s0_1 = some (r1, r2)) :
  Calls Try.prog 88 #[.pointer (some ⟨g, 0, none⟩)] w fun e w' => e = .returned (.int .i64 r1) ∧ IsS103 w0 w' g s0_0 r2 ∧ Below w0.heap.size w0 w' ∧ KeepBut w w' g none := by
 have HI0 := Aside0.mk hI
 have HK := Aside0.mk (KeepBut.refl w g none)
 have HL := Aside0.mk hB.size
 clear hI
 have HW0 := Aside0.mk hB.size
 have HB := Aside0.mk hB
 clear hB
 have H : ((spec_l1Rd_pick.f k s0_0 s0_1 256).bind fun bt203 => ((spec_l1Rd_pick.f k s0_0 bt203.2 8).bind fun bt205 => ((spec_l1Rd_pick.f k s0_0 bt205.2 16).bind fun bt207 => ((spec_l1Rd_pick.f k s0_0 bt207.2 256).bind fun bt209 => ((spec_l1Rd_pick.f k s0_0 bt209.2 64).bind fun bt211 => ((spec_l1Rd_one.f k s0_0 bt211.2 (([wrap64 (167772160 + bt203.1), wrap64 (167772160 + bt205.1), wrap64 (167772416 + bt207.1), wrap64 (3232235520 + bt209.1), 0, 4294967295, 184549375, wrap64 (2886729728 + (wrap64 (bt211.1 * 256)))] : List Int))).bind fun bt216 => (some (bt216.1, bt216.2)))))))) = some (r1, r2) := h
 clear h
 replace H := bd H
 obtain ⟨⟨t203, t204⟩, A2, H⟩ := H
 replace H : ((spec_l1Rd_pick.f k s0_0 t204 8).bind fun bt205 => ((spec_l1Rd_pick.f k s0_0 bt205.2 16).bind fun bt207 => ((spec_l1Rd_pick.f k s0_0 bt207.2 256).bind fun bt209 => ((spec_l1Rd_pick.f k s0_0 bt209.2 64).bind fun bt211 => ((spec_l1Rd_one.f k s0_0 bt211.2 (([wrap64 (167772160 + t203), wrap64 (167772160 + bt205.1), wrap64 (167772416 + bt207.1), wrap64 (3232235520 + bt209.1), 0, 4294967295, 184549375, wrap64 (2886729728 + (wrap64 (bt211.1 * 256)))] : List Int))).bind fun bt216 => (some (bt216.1, bt216.2))))))) = some (r1, r2) := H
 replace H := bd H
 obtain ⟨⟨t205, t206⟩, A3, H⟩ := H
 replace H : ((spec_l1Rd_pick.f k s0_0 t206 16).bind fun bt207 => ((spec_l1Rd_pick.f k s0_0 bt207.2 256).bind fun bt209 => ((spec_l1Rd_pick.f k s0_0 bt209.2 64).bind fun bt211 => ((spec_l1Rd_one.f k s0_0 bt211.2 (([wrap64 (167772160 + t203), wrap64 (167772160 + t205), wrap64 (167772416 + bt207.1), wrap64 (3232235520 + bt209.1), 0, 4294967295, 184549375, wrap64 (2886729728 + (wrap64 (bt211.1 * 256)))] : List Int))).bind fun bt216 => (some (bt216.1, bt216.2)))))) = some (r1, r2) := H
 replace H := bd H
 obtain ⟨⟨t207, t208⟩, A4, H⟩ := H
 replace H : ((spec_l1Rd_pick.f k s0_0 t208 256).bind fun bt209 => ((spec_l1Rd_pick.f k s0_0 bt209.2 64).bind fun bt211 => ((spec_l1Rd_one.f k s0_0 bt211.2 (([wrap64 (167772160 + t203), wrap64 (167772160 + t205), wrap64 (167772416 + t207), wrap64 (3232235520 + bt209.1), 0, 4294967295, 184549375, wrap64 (2886729728 + (wrap64 (bt211.1 * 256)))] : List Int))).bind fun bt216 => (some (bt216.1, bt216.2))))) = some (r1, r2) := H
 replace H := bd H
 obtain ⟨⟨t209, t210⟩, A5, H⟩ := H
 replace H : ((spec_l1Rd_pick.f k s0_0 t210 64).bind fun bt211 => ((spec_l1Rd_one.f k s0_0 bt211.2 (([wrap64 (167772160 + t203), wrap64 (167772160 + t205), wrap64 (167772416 + t207), wrap64 (3232235520 + t209), 0, 4294967295, 184549375, wrap64 (2886729728 + (wrap64 (bt211.1 * 256)))] : List Int))).bind fun bt216 => (some (bt216.1, bt216.2)))) = some (r1, r2) := H
 replace H := bd H
 obtain ⟨⟨t211, t212⟩, A6, H⟩ := H
 replace H : ((spec_l1Rd_one.f k s0_0 t212 (([wrap64 (167772160 + t203), wrap64 (167772160 + t205), wrap64 (167772416 + t207), wrap64 (3232235520 + t209), 0, 4294967295, 184549375, wrap64 (2886729728 + (wrap64 (t211 * 256)))] : List Int))).bind fun bt216 => (some (bt216.1, bt216.2))) = some (r1, r2) := H
 obtain ⟨y213, hy213⟩ : ∃ y_ : List Int, y_ = (([wrap64 (167772160 + t203), wrap64 (167772160 + t205), wrap64 (167772416 + t207), wrap64 (3232235520 + t209), 0, 4294967295, 184549375, wrap64 (2886729728 + (wrap64 (t211 * 256)))] : List Int)) := ⟨_, rfl⟩
 replace H : ((spec_l1Rd_one.f k s0_0 t212 y213).bind fun bt216 => (some (bt216.1, bt216.2))) = some (r1, r2) := by first | (rw [hy213]; with_reducible exact H) | (have H2_ := (Option.bind_some _ _).symm.trans H; rw [hy213]; with_reducible exact H2_) | (have H2_ := (Option.bind_some _ _).symm.trans H; with_reducible exact H2_) | with_reducible exact H | (rw [hy213]; exact H) | exact H
 have Ny213 := Aside0.mk hy213
 clear hy213
 replace H := bd H
 obtain ⟨⟨t216, t217⟩, A7, H⟩ := H
 replace H : (some (t216, t217)) = some (r1, r2) := H
 simp only [Option.some.injEq, Prod.mk.injEq] at H
 obtain ⟨rfl, rfl⟩ := H
 go_enter Try.func88, Try.ntmps88
 go_wp2_with (first | (refine gc (some 5) Try.func44 #[.pointer (some ⟨g, 0, none⟩), .int .i64 256] ?_; (with_reducible refine (spec_l1Rd_pick.calls k g s0_0 s0_1 256 t203 t204 w0 _ ?side1 ?side2 A2.out).mono ?_); (case side1 => exact zz26 HI0); (case side2 => exact zz28 HI0); rintro e w8 ⟨rfl, hi, hb, hk⟩; refine ⟨_, rfl, ?_⟩; replace HK := Aside0.mk (KeepBut.trans zz27 hk (.inl rfl)); replace HB := Aside0.mk hb; replace HI0 := Aside0.mk hi; clear hb hk hi) | (refine gc (some 8) Try.func44 #[.pointer (some ⟨g, 0, none⟩), .int .i64 8] ?_; (with_reducible refine (spec_l1Rd_pick.calls k g s0_0 t204 8 t205 t206 w0 _ ?side1 ?side2 A3.out).mono ?_); (case side1 => exact zz26 HI0); (case side2 => exact zz28 HI0); rintro e w9 ⟨rfl, hi, hb, hk⟩; refine ⟨_, rfl, ?_⟩; replace HK := Aside0.mk (KeepBut.trans zz27 hk (.inl rfl)); replace HB := Aside0.mk hb; replace HI0 := Aside0.mk hi; clear hb hk hi) | (refine gc (some 11) Try.func44 #[.pointer (some ⟨g, 0, none⟩), .int .i64 16] ?_; (with_reducible refine (spec_l1Rd_pick.calls k g s0_0 t206 16 t207 t208 w0 _ ?side1 ?side2 A4.out).mono ?_); (case side1 => exact zz26 HI0); (case side2 => exact zz28 HI0); rintro e w10 ⟨rfl, hi, hb, hk⟩; refine ⟨_, rfl, ?_⟩; replace HK := Aside0.mk (KeepBut.trans zz27 hk (.inl rfl)); replace HB := Aside0.mk hb; replace HI0 := Aside0.mk hi; clear hb hk hi) | (refine gc (some 14) Try.func44 #[.pointer (some ⟨g, 0, none⟩), .int .i64 256] ?_; (with_reducible refine (spec_l1Rd_pick.calls k g s0_0 t208 256 t209 t210 w0 _ ?side1 ?side2 A5.out).mono ?_); (case side1 => exact zz26 HI0); (case side2 => exact zz28 HI0); rintro e w11 ⟨rfl, hi, hb, hk⟩; refine ⟨_, rfl, ?_⟩; replace HK := Aside0.mk (KeepBut.trans zz27 hk (.inl rfl)); replace HB := Aside0.mk hb; replace HI0 := Aside0.mk hi; clear hb hk hi) | (refine gc (some 17) Try.func44 #[.pointer (some ⟨g, 0, none⟩), .int .i64 64] ?_; (with_reducible refine (spec_l1Rd_pick.calls k g s0_0 t210 64 t211 t212 w0 _ ?side1 ?side2 A6.out).mono ?_); (case side1 => exact zz26 HI0); (case side2 => exact zz28 HI0); rintro e w12 ⟨rfl, hi, hb, hk⟩; refine ⟨_, rfl, ?_⟩; replace HK := Aside0.mk (KeepBut.trans zz27 hk (.inl rfl)); replace HB := Aside0.mk hb; replace HI0 := Aside0.mk hi; clear hb hk hi) | (refine gt 20 ?_; refine rl (Kd.int .i64) 3 20 ([wrap64 (167772160 + t203), wrap64 (167772160 + t205), wrap64 (167772416 + t207), wrap64 (3232235520 + t209), 0, 4294967295, 184549375, wrap64 (2886729728 + (wrap64 (t211 * 256)))] : List Int) [.int .i64 (wrap64 (167772160 + t203)), .int .i64 (wrap64 (167772160 + t205)), .int .i64 (wrap64 (167772416 + t207)), .int .i64 (wrap64 (3232235520 + t209)), .int .i64 0, .int .i64 4294967295, .int .i64 184549375, .int .i64 (wrap64 (2886729728 + (wrap64 (t211 * 256))))] ?hp ?_; (case hp => exact (ro (ro (ro (ro (ro (ro (ro (Reps.one (show Kd.M (Kd.int .i64) _ _ _ (wrap64 (2886729728 + (wrap64 (t211 * 256)))) [.int .i64 (wrap64 (2886729728 + (wrap64 (t211 * 256))))] from rfl) (Reps.none _ _)))))))))); intro v214 w13 ho14 hb hg_ hnew_; clear hg_ hnew_; (first | rw [← Ny213.out] at ho14 | (simp only [Int.reduceToNat] at ho14; rw [← Ny213.out] at ho14)); have HO215 := Aside0.mk (Kd.R_lower ho14 (keep_size (w := w) (g := g) (row := none) zz27)); replace HK := Aside0.mk (KeepBut.trans zz27 (KeepBut.of_below hb g none) (.inl rfl)); replace HB := Aside0.mk (below_step (zz28 HI0) hb); replace HI0 := Aside0.mk (IsS103.below (zz26 HI0) hb); clear hb ho14; obtain ⟨Ao15, co15, eo15⟩ := Kd.R_slice HO215.out; subst eo15) | (refine gc (some 21) Try.func45 #[.pointer (some ⟨g, 0, none⟩), .slice Ao15 y213.length co15] ?_; (with_reducible refine (spec_l1Rd_one.calls k g s0_0 t212 _ _ y213 t216 t217 w0 _ ?side1 ?side2 ?side3 ?side4 ?side5 A7.out).mono ?_); (case side1 => exact zz26 HI0); (case side2 => exact zz28 HI0); (case side3 => exact zz19 HO215); (case side4 => exact zz22 HO215); (case side5 => exact far_slice (IsS103.own_ne HI0.out HO215.out (by decide))); rintro e w16 ⟨rfl, hi, hb, hk⟩; refine ⟨_, rfl, ?_⟩; replace HO215 := Aside0.mk (Kd.R_mono (Kd.R_keep (IsS103.apart (show IsS103 w0 _ g s0_0 t212 from zz26 HI0) (zz12 HO215) (by decide)) hk (fun _ h => h.2)) (fun _ h => h.1)); replace HK := Aside0.mk (KeepBut.trans zz27 hk (.inl rfl)); replace HB := Aside0.mk hb; replace HI0 := Aside0.mk hi; clear hb hk hi))
 go_ret
 exact ⟨zz8, zz26 HI0, zz28 HI0, zz27⟩

/-! ### spec_l1Two: function 97 -/
def spec_l1Two.l0 : Nat → Int → Int → Option (Int)
 | 0, _, _ => none
 | k + 1, x0, x3 => if x0 > 0 then (spec_l1Two.l0 k (wrap64 (x0 - 1)) (wrap64 (x3 * 2))) else (some x3)
def spec_l1Two.f (k : Nat) (a0 : Int) : Option (Int) := spec_l1Two.l0 k a0 1
theorem spec_l1Two.mono_l : ∀ k, (∀ y0 y1, LeO (spec_l1Two.l0 k y0 y1) (spec_l1Two.l0 (k + 1) y0 y1))
 | 0 => fun _ _ r h => by simp [spec_l1Two.l0] at h
 | k + 1 => by
  have ih0 := spec_l1Two.mono_l k
  ·intro y0 y1
   unfold spec_l1Two.l0
   repeat' first
   | (with_reducible exact ih0 _ _)
   | (with_reducible exact LeO.refl _)
   | (with_reducible exact LeO.none _)
   | (with_reducible refine LeO.ite ?_ ?_)
   | (with_reducible refine LeO.bind ?_ (fun _ => ?_))
   | exact ih0 _ _
   | exact LeO.none _
   | refine LeO.ite ?_ ?_
   | refine LeO.bind ?_ (fun _ => ?_)
theorem spec_l1Two.mono : ∀ a0 k, LeO (spec_l1Two.f k a0) (spec_l1Two.f (k + 1) a0) := by
 intro a0 k
 have ih0 := spec_l1Two.mono_l k
 unfold spec_l1Two.f
 repeat' first
   | (with_reducible exact ih0 _ _)
   | (with_reducible exact LeO.refl _)
   | (with_reducible exact LeO.none _)
   | (with_reducible refine LeO.ite ?_ ?_)
   | (with_reducible refine LeO.bind ?_ (fun _ => ?_))
   | exact ih0 _ _
   | exact LeO.none _
   | refine LeO.ite ?_ ?_
   | refine LeO.bind ?_ (fun _ => ?_)
set_option maxHeartbeats 8000000 in
set_option maxRecDepth 100000 in
theorem spec_l1Two.calls (k : Nat) (a0 : Int) (r : Int) (w : World) (h : spec_l1Two.f k a0 = some r) :
  Calls Try.prog 97 #[.int .i64 a0] w fun e w' => e = .returned (.int .i64 r) ∧ Drawn0 w w' := by
 have H : (spec_l1Two.l0 k a0 1) = some r := h
 clear h
 have H' := Aside0.mk H
 clear H
 go_enter Try.func97, Try.ntmps97
 go_wp2
 go_loopg [0, 3] k (fun kq v0 v3 w' => ∃ (x0_1 : Int) (x3_1 : Int), v0 = .int .i64 x0_1 ∧ v3 = .int .i64 x3_1 ∧ Aside0 (spec_l1Two.l0 kq x0_1 x3_1 = some r) ∧ Aside0 (kq ≤ k) ∧ Drawn0 w w')
 case atStart => exact ⟨(a0), (1), zz1, zz1, H', ⟨Nat.le_refl _⟩, zz2⟩
 case round =>
  clear H'
  obtain ⟨x0_1, x3_1, rfl, rfl, HA, HK1, ⟨m1, rfl⟩⟩ := hrel
  cases gk with
  | zero => exact absurd HA.out (by simp [spec_l1Two.l0])
  | succ k1 =>
   have H := HA.out
   clear HA
   simp only [spec_l1Two.l0] at H
   replace H := ic H
   rcases H with ⟨c2b0, H⟩ | ⟨c2b0, H⟩
   ·have H' := Aside0.mk H
    clear H
    go_wp2
    go_roundg k1
    case measure => have := HK1.out; omega
    case rel => exact ⟨(wrap64 (x0_1 - 1)), (wrap64 (x3_1 * 2)), zz1, zz1, H', ⟨zz3 HK1⟩, zz2⟩
   ·obtain rfl := Option.some.inj H
    go_wp2
    go_ret
    exact ⟨zz1, zz2⟩

/-! ### spec_l1Size: function 73 -/
def spec_l1Size.f (k : Nat) (a0 : Int) : Option (Int) := (spec_l1Two.f k (wrap64 (32 - a0))).bind fun t218 => (some t218)
theorem spec_l1Size.mono : ∀ a0 k, LeO (spec_l1Size.f k a0) (spec_l1Size.f (k + 1) a0) := by
 intro a0 k
 unfold spec_l1Size.f
 repeat' first
   | (with_reducible exact spec_l1Two.mono _ _)
   | (with_reducible exact LeO.refl _)
   | (with_reducible exact LeO.none _)
   | (with_reducible refine LeO.ite ?_ ?_)
   | (with_reducible refine LeO.bind ?_ (fun _ => ?_))
   | exact spec_l1Two.mono _ _
   | exact LeO.none _
   | refine LeO.ite ?_ ?_
   | refine LeO.bind ?_ (fun _ => ?_)
set_option maxHeartbeats 8000000 in
set_option maxRecDepth 100000 in
theorem spec_l1Size.calls (k : Nat) (a0 : Int) (r : Int) (w : World) (h : spec_l1Size.f k a0 = some r) :
  Calls Try.prog 73 #[.int .i64 a0] w fun e w' => e = .returned (.int .i64 r) ∧ Drawn0 w w' := by
 have H : ((spec_l1Two.f k (wrap64 (32 - a0))).bind fun t218 => (some t218)) = some r := h
 clear h
 replace H := bd H
 obtain ⟨t218, A2, H⟩ := H
 replace H : (some t218) = some r := H
 obtain rfl := Option.some.inj H
 go_enter Try.func73, Try.ntmps73
 go_wp2_with (first | (refine gc (some 5) Try.func97 #[.int .i64 (wrap64 (32 - a0))] ?_; (with_reducible refine (spec_l1Two.calls k (wrap64 (32 - a0)) t218 _ A2.out).mono ?_); rintro e w' ⟨rfl, ⟨nd, rfl⟩⟩; refine ⟨_, rfl, ?_⟩))
 go_ret
 exact ⟨zz1, zz2⟩

/-! ### spec_l1Over: function 108 -/
def spec_l1Over.f (k : Nat) (a0 : Int) (a1 : Int) : Option (Int × Int) := (spec_l1Size.f k a1).bind fun t220 => (if t220 = 0 then (none) else ((spec_l1Size.f k a1).bind fun t221 => (some (wrap64 ((wrap64 (Int.tdiv a0 t220)) * t221), a1))))
theorem spec_l1Over.mono : ∀ a0 a1 k, LeO (spec_l1Over.f k a0 a1) (spec_l1Over.f (k + 1) a0 a1) := by
 intro a0 a1 k
 unfold spec_l1Over.f
 repeat' first
   | (with_reducible exact spec_l1Size.mono _ _)
   | (with_reducible exact LeO.refl _)
   | (with_reducible exact LeO.none _)
   | (with_reducible refine LeO.ite ?_ ?_)
   | (with_reducible refine LeO.bind ?_ (fun _ => ?_))
   | exact spec_l1Size.mono _ _
   | exact LeO.none _
   | refine LeO.ite ?_ ?_
   | refine LeO.bind ?_ (fun _ => ?_)
def spec_l1Over.T1 : Bool × List (List Nat × List Nat) := (true, [([], []), ([], []), ([1], [1]), ([0, 2], [0, 2]), ([], []), ([4, 2], [4]), ([3, 5], [3, 5]), ([], []), ([6, 7], [6, 7]), ([8, 5, 0, 1, 2, 3, 4, 5, 6, 7, 8], [8])])
def spec_l1Over.B1 : List Nat := [0, 0, 2, 7, 0, 22, 63, 0, 255, 511]
theorem spec_l1Over.tab1 : rtab .any (opsOf Try.f108 1) = spec_l1Over.T1 := by kernel_rfl
theorem spec_l1Over.bits1 : waitsOk spec_l1Over.T1.2 spec_l1Over.B1 = true := by kernel_rfl
set_option maxHeartbeats 8000000 in
set_option maxRecDepth 100000 in
theorem spec_l1Over.calls (k : Nat) (a0 : Int) (a1 : Int) (r1 : Int) (r2 : Int) (w : World) (h : spec_l1Over.f k a0 a1 = some (r1, r2)) :
  Calls Try.prog 108 #[.int .i64 a0, .int .i64 a1] w fun e w' => e = .returned (.agg #[.int .i64 r1, .int .i64 r2]) ∧ Below w.heap.size w w' := by
 have hu40 := Try.underlying40
 have HB := Aside0.mk (Below.refl w.heap.size w)
 have H : ((spec_l1Size.f k a1).bind fun t220 => (if t220 = 0 then (none) else ((spec_l1Size.f k a1).bind fun t221 => (some (wrap64 ((wrap64 (Int.tdiv a0 t220)) * t221), a1))))) = some (r1, r2) := h
 clear h
 replace H := bd H
 obtain ⟨t220, A3, H⟩ := H
 replace H : (if t220 = 0 then (none) else ((spec_l1Size.f k a1).bind fun t221 => (some (wrap64 ((wrap64 (Int.tdiv a0 t220)) * t221), a1)))) = some (r1, r2) := H
 replace H := gn H
 obtain ⟨c4, H⟩ := H
 have c4b0 : (t220 == 0) = false := beq_eq_false_iff_ne.mpr c4
 have c4b1 : (t220 != 0) = true := bne_iff_ne.mpr c4
 replace H := bd H
 obtain ⟨t221, A5, H⟩ := H
 replace H : (some (wrap64 ((wrap64 (Int.tdiv a0 t220)) * t221), a1)) = some (r1, r2) := H
 simp only [Option.some.injEq, Prod.mk.injEq] at H
 obtain ⟨rfl, rfl⟩ := H
 go_enter Try.func108, Try.ntmps108
 try go_wp2_with (first | (refine be 4 #[.int .i64 0, .int .i64 0] 40 ?_; intro gb219 hg w6 hbox hb; have BK219 := Aside0.mk hbox; have GW219 := Aside0.mk (zz4 : w.heap.size ≤ gb219); have GE219 := Aside0.mk (zz4 : w.heap.size ≤ gb219); replace HB := Aside0.mk (below_step zz5 hb); clear hb hbox hg))
 replace BK219 := Aside0.mk (blk_drew BK219.out)
 replace HB := Aside0.mk (below_drew1 HB.out)
 refine start_ (n := 10) (S := fun w' => True) (ds := []) (bm 10 0) (by kernel_rfl) rfl rfl trivial (fun hHeld => ?_); refine with_tabW spec_l1Over.tab1 spec_l1Over.bits1 (fun HT_ HW_ => ?_)
 generalize w6.drew = w7 at BK219 HB hHeld ⊢
 refine pu 0 5 (bm 10 1) ?_
 refine pu 1 6 (bm 10 3) ?_
 refine pu 4 9 (bm 10 19) ?_
 refine pu 7 12 (bm 10 147) ?_
 refine on 2 (some 7) (bm 10 151) (fun K hK => ?_)
 refine gs Try.func73 #[.int .i64 a1] ?_
 with_reducible refine (spec_l1Size.calls k a1 t220 _ A3.out).mono ?_
 rintro e w' ⟨rfl, ⟨nd, rfl⟩⟩
 refine ⟨_, rfl, ?_⟩
 refine hK.out _ _ trivial (fun hHeld => ?_)
 clear hK K
 refine nm 7 ?_
 refine pu 3 8 (bm 10 159) ?_
 refine on 5 (some 10) (bm 10 191) (fun K hK => ?_)
 refine gs Try.func73 #[.int .i64 a1] ?_
 with_reducible refine (spec_l1Size.calls k a1 t221 _ A5.out).mono ?_
 rintro e w' ⟨rfl, ⟨nd, rfl⟩⟩
 refine ⟨_, rfl, ?_⟩
 refine hK.out _ _ trivial (fun hHeld => ?_)
 clear hK K
 refine nm 10 ?_
 refine pu 6 11 (bm 10 255) ?_
 refine pu 8 13 (bm 10 511) ?_
 refine on 9 none (bm 10 1023) (fun K hK => ?_)
 have hs8 : w7.cell? ⟨gb219, 0, none⟩ = some (.int .i64 0) := (blk_cell BK219.out 0).trans rfl
 have hfs8 := blk_frozen BK219.out 0
 have hs9 : w7.cell? ⟨gb219, 1, none⟩ = some (.int .i64 0) := (blk_cell BK219.out 1).trans rfl
 have hfs9 := blk_frozen BK219.out 1
 refine skip_ (w1 := ?_) (by rfl) rfl ?_ ?_
 rotate_left
 ·go_simp
  rfl
 refine hK.out _ _ trivial (fun hHeld => ?_)
 clear hK K
 refine done_ (done_of HT_.out (by kernel_rfl)) ?_
 try go_wp2
 refine bodyPost_ret (results_cell_row rfl _ _ gb219 40 #[.int .i64 (wrap64 ((wrap64 (Int.tdiv a0 t220)) * t221)), .int .i64 a1] (0, 0) _ rfl (by (with_reducible repeat (first | refine blk_drewN ?_ _ | refine blk_drew ?_ | refine blk_alloc ?_ _)); refine blk_put (cs := #[.int .i64 (wrap64 ((wrap64 (Int.tdiv a0 t220)) * t221)), .int .i64 0]) ?_ 1 _ rfl; (with_reducible repeat (first | refine blk_drewN ?_ _ | refine blk_drew ?_ | refine blk_alloc ?_ _)); refine blk_put (cs := #[.int .i64 0, .int .i64 0]) ?_ 0 _ rfl; (with_reducible repeat (first | refine blk_drewN ?_ _ | refine blk_drew ?_ | refine blk_alloc ?_ _)); exact BK219.out) Try.underlying40 rfl (by kernel_rfl)) rfl ?_
 exact ⟨zz8, zz6 GE219⟩

/-! ### spec_l12Block: function 93 -/
def spec_l12Block.f (k : Nat) (s0_0 : List Int) (s0_1 : Int) : Option (Int × Int × Int) := (spec_l12Addr.f k s0_0 s0_1).bind fun bt223 => ((spec_l1Rd_one.f k s0_0 bt223.2 (([32, 31, 30, 28, 24, 24, 25, 16, 8, 1, 0, 29] : List Int))).bind fun bt228 => ((spec_l1Over.f k bt223.1 bt228.1).bind fun bt230 => (some (bt230.1, bt230.2, bt228.2))))
theorem spec_l12Block.mono : ∀ a0 a1 k, LeO (spec_l12Block.f k a0 a1) (spec_l12Block.f (k + 1) a0 a1) := by
 intro a0 a1 k
 unfold spec_l12Block.f
 repeat' first
   | (with_reducible exact spec_l12Addr.mono _ _ _)
   | (with_reducible exact spec_l1Over.mono _ _ _)
   | (with_reducible exact spec_l1Rd_one.mono _ _ _ _)
   | (with_reducible exact LeO.refl _)
   | (with_reducible exact LeO.none _)
   | (with_reducible refine LeO.ite ?_ ?_)
   | (with_reducible refine LeO.bind ?_ (fun _ => ?_))
   | exact spec_l12Addr.mono _ _ _
   | exact spec_l1Over.mono _ _ _
   | exact spec_l1Rd_one.mono _ _ _ _
   | exact LeO.none _
   | refine LeO.ite ?_ ?_
   | refine LeO.bind ?_ (fun _ => ?_)
set_option maxHeartbeats 8000000 in
set_option maxRecDepth 100000 in
theorem spec_l12Block.calls (k : Nat) (g : Nat) (s0_0 : List Int) (s0_1 : Int) (r1 : Int) (r2 : Int) (r3 : Int) (w0 w : World) (hI : IsS103 w0 w g s0_0 s0_1) (hB : Below w0.heap.size w0 w) (h : spec_l12Block.f k s0_0 s0_1 = some (r1, r2, r3)) :
  Calls Try.prog 93 #[.pointer (some ⟨g, 0, none⟩)] w fun e w' => e = .returned (.agg #[.int .i64 r1, .int .i64 r2]) ∧ IsS103 w0 w' g s0_0 r3 ∧ Below w0.heap.size w0 w' ∧ KeepBut w w' g none := by
 have hu40 := Try.underlying40
 have HI0 := Aside0.mk hI
 have HK := Aside0.mk (KeepBut.refl w g none)
 have HL := Aside0.mk hB.size
 clear hI
 have HW0 := Aside0.mk hB.size
 have HB := Aside0.mk hB
 clear hB
 have H : ((spec_l12Addr.f k s0_0 s0_1).bind fun bt223 => ((spec_l1Rd_one.f k s0_0 bt223.2 (([32, 31, 30, 28, 24, 24, 25, 16, 8, 1, 0, 29] : List Int))).bind fun bt228 => ((spec_l1Over.f k bt223.1 bt228.1).bind fun bt230 => (some (bt230.1, bt230.2, bt228.2))))) = some (r1, r2, r3) := h
 clear h
 replace H := bd H
 obtain ⟨⟨t223, t224⟩, A2, H⟩ := H
 replace H : ((spec_l1Rd_one.f k s0_0 t224 (([32, 31, 30, 28, 24, 24, 25, 16, 8, 1, 0, 29] : List Int))).bind fun bt228 => ((spec_l1Over.f k t223 bt228.1).bind fun bt230 => (some (bt230.1, bt230.2, bt228.2)))) = some (r1, r2, r3) := H
 obtain ⟨y225, hy225⟩ : ∃ y_ : List Int, y_ = (([32, 31, 30, 28, 24, 24, 25, 16, 8, 1, 0, 29] : List Int)) := ⟨_, rfl⟩
 replace H : ((spec_l1Rd_one.f k s0_0 t224 y225).bind fun bt228 => ((spec_l1Over.f k t223 bt228.1).bind fun bt230 => (some (bt230.1, bt230.2, bt228.2)))) = some (r1, r2, r3) := by first | (rw [hy225]; with_reducible exact H) | (have H2_ := (Option.bind_some _ _).symm.trans H; rw [hy225]; with_reducible exact H2_) | (have H2_ := (Option.bind_some _ _).symm.trans H; with_reducible exact H2_) | with_reducible exact H | (rw [hy225]; exact H) | exact H
 have Ny225 := Aside0.mk hy225
 clear hy225
 replace H := bd H
 obtain ⟨⟨t228, t229⟩, A3, H⟩ := H
 replace H : ((spec_l1Over.f k t223 t228).bind fun bt230 => (some (bt230.1, bt230.2, t229))) = some (r1, r2, r3) := H
 replace H := bd H
 obtain ⟨⟨t230, t231⟩, A4, H⟩ := H
 replace H : (some (t230, t231, t229)) = some (r1, r2, r3) := H
 simp only [Option.some.injEq, Prod.mk.injEq] at H
 obtain ⟨rfl, rfl, rfl⟩ := H
 go_enter Try.func93, Try.ntmps93
 go_wp2_with (first | (refine be 2 #[.int .i64 0, .int .i64 0] 40 ?_; intro gb222 hg w5 hbox hb; replace HB := Aside0.mk (below_step (zz28 HI0) hb); have BK222 := Aside0.mk hbox; have GW222 := Aside0.mk (zz29 : w.heap.size ≤ gb222); have GE222 := Aside0.mk (Nat.le_trans HW0.out (zz29 : w.heap.size ≤ gb222) : w0.heap.size ≤ gb222); replace HK := Aside0.mk (KeepBut.trans zz27 (KeepBut.of_below hb g none) (.inl rfl)); have NB0_222 := Aside0.mk (by rw [hg]; exact Nat.ne_of_lt (IsS103.lt (show IsS103 w0 _ g s0_0 s0_1 from zz26 HI0)) : g ≠ gb222); have NB222_0 := Aside0.mk (by rw [hg]; exact Nat.ne_of_gt (IsS103.lt (show IsS103 w0 _ g s0_0 s0_1 from zz26 HI0)) : gb222 ≠ g); replace HI0 := Aside0.mk (IsS103.below (zz26 HI0) hb); clear hb hbox hg) | (refine gc (some 4) Try.func88 #[.pointer (some ⟨g, 0, none⟩)] ?_; (with_reducible refine (spec_l12Addr.calls k g s0_0 s0_1 t223 t224 w0 _ ?side1 ?side2 A2.out).mono ?_); (case side1 => exact zz30 HI0 NB0_222); (case side2 => exact zz31 HI0 GE222); rintro e w6 ⟨rfl, hi, hb, hk⟩; refine ⟨_, rfl, ?_⟩; replace BK222 := Aside0.mk (KeepBut.blk hk (g' := gb222) (o := .cells #[.int .i64 0, .int .i64 0] 40 (0, 0)) (zz7 BK222) NB222_0.out (by simp)); replace HK := Aside0.mk (KeepBut.trans (zz32 GW222) hk (.inl rfl)); replace HB := Aside0.mk hb; replace HI0 := Aside0.mk hi; clear hb hk hi) | (refine gt 6 ?_; refine rl (Kd.int .i64) 3 6 ([32, 31, 30, 28, 24, 24, 25, 16, 8, 1, 0, 29] : List Int) [.int .i64 32, .int .i64 31, .int .i64 30, .int .i64 28, .int .i64 24, .int .i64 24, .int .i64 25, .int .i64 16, .int .i64 8, .int .i64 1, .int .i64 0, .int .i64 29] ?hp ?_; (case hp => exact (ro (ro (ro (ro (ro (ro (ro (ro (ro (ro (ro (ro (Reps.none _ _)))))))))))))); intro v226 w7 ho8 hb hg_ hnew_; clear hg_ hnew_; (first | rw [← Ny225.out] at ho8 | (simp only [Int.reduceToNat] at ho8; rw [← Ny225.out] at ho8)); have HO227 := Aside0.mk (Kd.R_lower ho8 (keep_size (w := w) (g := g) (row := none) (zz32 GW222))); replace BK222 := Aside0.mk (blk_below (g := gb222) (o := .cells #[.int .i64 0, .int .i64 0] 40 (0, 0)) (zz7 BK222) hb); replace HK := Aside0.mk (KeepBut.trans (zz32 GW222) (KeepBut.of_below hb g none) (.inl rfl)); replace HB := Aside0.mk (below_step (zz31 HI0 GE222) hb); replace HI0 := Aside0.mk (IsS103.below (zz30 HI0 NB0_222) hb); clear hb ho8; obtain ⟨Ao9, co9, eo9⟩ := Kd.R_slice HO227.out; subst eo9) | (refine gc (some 7) Try.func45 #[.pointer (some ⟨g, 0, none⟩), .slice Ao9 y225.length co9] ?_; (with_reducible refine (spec_l1Rd_one.calls k g s0_0 t224 _ _ y225 t228 t229 w0 _ ?side1 ?side2 ?side3 ?side4 ?side5 A3.out).mono ?_); (case side1 => exact zz30 HI0 NB0_222); (case side2 => exact zz31 HI0 GE222); (case side3 => exact zz19 HO227); (case side4 => exact zz22 HO227); (case side5 => exact far_slice (IsS103.own_ne HI0.out HO227.out (by decide))); rintro e w10 ⟨rfl, hi, hb, hk⟩; refine ⟨_, rfl, ?_⟩; replace BK222 := Aside0.mk (KeepBut.blk hk (g' := gb222) (o := .cells #[.int .i64 0, .int .i64 0] 40 (0, 0)) (zz7 BK222) NB222_0.out (by simp)); replace HO227 := Aside0.mk (Kd.R_mono (Kd.R_keep (IsS103.apart (show IsS103 w0 _ g s0_0 t224 from zz30 HI0 NB0_222) (zz12 HO227) (by decide)) hk (fun _ h => h.2)) (fun _ h => h.1)); replace HK := Aside0.mk (KeepBut.trans (zz32 GW222) hk (.inl rfl)); replace HB := Aside0.mk hb; replace HI0 := Aside0.mk hi; clear hb hk hi) | (refine gc (some 8) Try.func108 #[.int .i64 t223, .int .i64 t228] ?_; (with_reducible refine (spec_l1Over.calls k t223 t228 t230 t231 _ A4.out).mono ?_); rintro e w11 ⟨rfl, hb⟩; refine ⟨_, rfl, ?_⟩; replace HO227 := Aside0.mk (Kd.R_below (zz12 HO227) hb); replace BK222 := Aside0.mk (blk_below (g := gb222) (o := .cells #[.int .i64 0, .int .i64 0] 40 (0, 0)) (zz7 BK222) hb); replace HK := Aside0.mk (KeepBut.trans (zz32 GW222) (KeepBut.of_below hb g none) (.inl rfl)); replace HB := Aside0.mk (below_step (zz31 HI0 GE222) hb); replace HI0 := Aside0.mk (IsS103.below (zz30 HI0 NB0_222) hb); clear hb; have hnb12 := NB222_0.out; have hnc12 := NB0_222.out; have hcz13_0 : w11.cell? ⟨gb222, 0, none⟩ = some (.int .i64 0) := (blk_cell BK222.out 0).trans rfl; have hcz13_1 : w11.cell? ⟨gb222, 1, none⟩ = some (.int .i64 0) := (blk_cell BK222.out 1).trans rfl; have hfz13_0 := blk_frozen BK222.out 0; have hfz13_1 := blk_frozen BK222.out 1))
 refine bodyPost_ret (results_cell_row rfl _ _ gb222 40 #[.int .i64 t230, .int .i64 t231] (0, 0) _ rfl (by (with_reducible repeat (first | refine blk_drewN ?_ _ | refine blk_drew ?_ | refine blk_alloc ?_ _)); refine blk_put (cs := #[.int .i64 t230, .int .i64 0]) ?_ 1 _ rfl; (with_reducible repeat (first | refine blk_drewN ?_ _ | refine blk_drew ?_ | refine blk_alloc ?_ _)); refine blk_put (cs := #[.int .i64 0, .int .i64 0]) ?_ 0 _ rfl; (with_reducible repeat (first | refine blk_drewN ?_ _ | refine blk_drew ?_ | refine blk_alloc ?_ _)); exact BK222.out) Try.underlying40 rfl (by kernel_rfl)) rfl ?_
 exact ⟨zz8, zz30 HI0 NB0_222, zz31 HI0 GE222, zz32 GW222⟩

/-! ### spec_l12Blocks: function 62 -/
mutual
def spec_l12Blocks.l0 : Nat → List (S40) → Int → List Int → Int → Option ((List (S40)) × Int)
 | 0, _, _, _, _ => none
 | k + 1, x3, x4, x1000, x1001 => if x4 > 0 then ((spec_l12Block.f k x1000 x1001).bind fun bt237 => (if x3.length < 8796093022208 then (spec_l12Blocks.l0 k (x3 ++ [(⟨bt237.1, bt237.2.1⟩ : S40)]) (wrap64 (x4 - 1)) x1000 bt237.2.2) else (none))) else ((spec_l1Rd_pick.f k x1000 x1001 20).bind fun bt243 => (if bt243.1 = 0 then (spec_l12Blocks.l1 k x3 x1000 bt243.2) else (some (x3, bt243.2))))
def spec_l12Blocks.l1 : Nat → List (S40) → List Int → Int → Option ((List (S40)) × Int)
 | 0, _, _, _ => none
 | k + 1, x3, x1000, x1001 => (spec_l1Rd_pick.f k x1000 x1001 2).bind fun bt245 => (if (x3.length : Int) < (wrap64 (64 + bt245.1)) then (if x3.length < 8796093022208 then (spec_l12Blocks.l1 k (x3 ++ [(⟨wrap64 (2 * (x3.length : Int)), 32⟩ : S40)]) x1000 bt245.2) else (none)) else (some (x3, bt245.2)))
end
def spec_l12Blocks.f (k : Nat) (s0_0 : List Int) (s0_1 : Int) : Option ((List (S40)) × Int) := (spec_l1Rd_pick.f k s0_0 s0_1 6).bind fun bt235 => (spec_l12Blocks.l0 k (([] : List (S40))) bt235.1 s0_0 bt235.2)
theorem spec_l12Blocks.mono_l : ∀ k, (∀ y0 y1 y2 y3, LeO (spec_l12Blocks.l0 k y0 y1 y2 y3) (spec_l12Blocks.l0 (k + 1) y0 y1 y2 y3)) ∧ (∀ y0 y1 y2, LeO (spec_l12Blocks.l1 k y0 y1 y2) (spec_l12Blocks.l1 (k + 1) y0 y1 y2))
 | 0 => ⟨fun _ _ _ _ r h => by simp [spec_l12Blocks.l0] at h, fun _ _ _ r h => by simp [spec_l12Blocks.l1] at h⟩
 | k + 1 => by
  obtain ⟨ih0, ih1⟩ := spec_l12Blocks.mono_l k
  refine ⟨?_, ?_⟩
  ·intro y0 y1 y2 y3
   unfold spec_l12Blocks.l0
   repeat' first
   | (with_reducible exact ih0 _ _ _ _)
   | (with_reducible exact ih1 _ _ _)
   | (with_reducible exact spec_l12Block.mono _ _ _)
   | (with_reducible exact spec_l1Rd_pick.mono _ _ _ _)
   | (with_reducible exact LeO.refl _)
   | (with_reducible exact LeO.none _)
   | (with_reducible refine LeO.ite ?_ ?_)
   | (with_reducible refine LeO.bind ?_ (fun _ => ?_))
   | exact ih0 _ _ _ _
   | exact ih1 _ _ _
   | exact spec_l12Block.mono _ _ _
   | exact spec_l1Rd_pick.mono _ _ _ _
   | exact LeO.none _
   | refine LeO.ite ?_ ?_
   | refine LeO.bind ?_ (fun _ => ?_)
  ·intro y0 y1 y2
   unfold spec_l12Blocks.l1
   repeat' first
   | (with_reducible exact ih0 _ _ _ _)
   | (with_reducible exact ih1 _ _ _)
   | (with_reducible exact spec_l12Block.mono _ _ _)
   | (with_reducible exact spec_l1Rd_pick.mono _ _ _ _)
   | (with_reducible exact LeO.refl _)
   | (with_reducible exact LeO.none _)
   | (with_reducible refine LeO.ite ?_ ?_)
   | (with_reducible refine LeO.bind ?_ (fun _ => ?_))
   | exact ih0 _ _ _ _
   | exact ih1 _ _ _
   | exact spec_l12Block.mono _ _ _
   | exact spec_l1Rd_pick.mono _ _ _ _
   | exact LeO.none _
   | refine LeO.ite ?_ ?_
   | refine LeO.bind ?_ (fun _ => ?_)
theorem spec_l12Blocks.mono : ∀ a0 a1 k, LeO (spec_l12Blocks.f k a0 a1) (spec_l12Blocks.f (k + 1) a0 a1) := by
 intro a0 a1 k
 obtain ⟨ih0, ih1⟩ := spec_l12Blocks.mono_l k
 unfold spec_l12Blocks.f
 repeat' first
   | (with_reducible exact ih0 _ _ _ _)
   | (with_reducible exact ih1 _ _ _)
   | (with_reducible exact spec_l12Block.mono _ _ _)
   | (with_reducible exact spec_l1Rd_pick.mono _ _ _ _)
   | (with_reducible exact LeO.refl _)
   | (with_reducible exact LeO.none _)
   | (with_reducible refine LeO.ite ?_ ?_)
   | (with_reducible refine LeO.bind ?_ (fun _ => ?_))
   | exact ih0 _ _ _ _
   | exact ih1 _ _ _
   | exact spec_l12Block.mono _ _ _
   | exact spec_l1Rd_pick.mono _ _ _ _
   | exact LeO.none _
   | refine LeO.ite ?_ ?_
   | refine LeO.bind ?_ (fun _ => ?_)
set_option maxHeartbeats 8000000 in
set_option maxRecDepth 100000 in
theorem spec_l12Blocks.calls (k : Nat) (g : Nat) (s0_0 : List Int) (s0_1 : Int) (r1 : List (S40)) (r2 : Int) (w0 w : World) (hI : IsS103 w0 w g s0_0 s0_1) (hB : Below w0.heap.size w0 w) (h : spec_l12Blocks.f k s0_0 s0_1 = some (r1, r2)) :
  Calls Try.prog 62 #[.pointer (some ⟨g, 0, none⟩)] w fun e w' => ∃ v0_ : Value, e = .returned (v0_) ∧ Kd.R k40 40 w' w.heap.size (fun _ => True) v0_ r1 ∧ IsS103 w0 w' g s0_0 r2 ∧ Below w0.heap.size w0 w' ∧ KeepBut w w' g none := by
 have hu40 := Try.underlying40
 have HI0 := Aside0.mk hI
 have HK := Aside0.mk (KeepBut.refl w g none)
 have HL := Aside0.mk hB.size
 clear hI
 have HW0 := Aside0.mk hB.size
 have HB := Aside0.mk hB
 clear hB
 have H : ((spec_l1Rd_pick.f k s0_0 s0_1 6).bind fun bt235 => (spec_l12Blocks.l0 k (([] : List (S40))) bt235.1 s0_0 bt235.2)) = some (r1, r2) := h
 clear h
 obtain ⟨y232, hy232⟩ : ∃ y_ : List (S40), y_ = (([] : List (S40))) := ⟨_, rfl⟩
 replace H : ((spec_l1Rd_pick.f k s0_0 s0_1 6).bind fun bt235 => (spec_l12Blocks.l0 k y232 bt235.1 s0_0 bt235.2)) = some (r1, r2) := by first | (rw [hy232]; with_reducible exact H) | (have H2_ := (Option.bind_some _ _).symm.trans H; rw [hy232]; with_reducible exact H2_) | (have H2_ := (Option.bind_some _ _).symm.trans H; with_reducible exact H2_) | with_reducible exact H | (rw [hy232]; exact H) | exact H
 have Ny232 := Aside0.mk hy232
 clear hy232
 replace H := bd H
 obtain ⟨⟨t235, t236⟩, A2, H⟩ := H
 replace H : (spec_l12Blocks.l0 k y232 t235 s0_0 t236) = some (r1, r2) := H
 have H' := Aside0.mk H
 clear H
 go_enter Try.func62, Try.ntmps62
 go_wp2_with (first | (refine gt 5 ?_; refine rl k40 40 5 ([] : List (S40)) [] ?hp ?_; (case hp => exact zz33); intro v233 w3 ho4 hb hg_ hnew_; clear hg_ hnew_; (first | rw [← Ny232.out] at ho4 | (simp only [Int.reduceToNat] at ho4; rw [← Ny232.out] at ho4)); have HO234 := Aside0.mk (Kd.R_lower ho4 (keep_size (w := w) (g := g) (row := none) zz27)); replace HK := Aside0.mk (KeepBut.trans zz27 (KeepBut.of_below hb g none) (.inl rfl)); replace HB := Aside0.mk (below_step (zz28 HI0) hb); replace HI0 := Aside0.mk (IsS103.below (zz26 HI0) hb); clear hb ho4) | (refine gc (some 7) Try.func44 #[.pointer (some ⟨g, 0, none⟩), .int .i64 6] ?_; (with_reducible refine (spec_l1Rd_pick.calls k g s0_0 s0_1 6 t235 t236 w0 _ ?side1 ?side2 A2.out).mono ?_); (case side1 => exact zz26 HI0); (case side2 => exact zz28 HI0); rintro e w5 ⟨rfl, hi, hb, hk⟩; refine ⟨_, rfl, ?_⟩; replace HO234 := Aside0.mk (Kd.R_mono (Kd.R_keep (IsS103.apart (show IsS103 w0 _ g s0_0 s0_1 from zz26 HI0) (zz12 HO234) (by decide)) hk (fun _ h => h.2)) (fun _ h => h.1)); replace HK := Aside0.mk (KeepBut.trans zz27 hk (.inl rfl)); replace HB := Aside0.mk hb; replace HI0 := Aside0.mk hi; clear hb hk hi))
 go_loopg [3, 4] k (fun kq v3 v4 w' => ∃ (x3_1 : List (S40)) (x4_1 : Int) (x1001_1 : Int), v4 = .int .i64 x4_1 ∧ Aside0 (spec_l12Blocks.l0 kq x3_1 x4_1 s0_0 x1001_1 = some (r1, r2)) ∧ Aside0 (kq ≤ k) ∧ Aside0 (Kd.R k40 40 w' w.heap.size (fun _ => True) v3 x3_1) ∧ Aside0 (IsS103 w0 w' g s0_0 x1001_1) ∧ Aside0 (KeepBut w w' g none) ∧ Aside0 (Below w0.heap.size w0 w'))
 case atStart => exact ⟨(y232), (t235), (t236), zz1, H', ⟨Nat.le_refl _⟩, ⟨zz12 HO234⟩, ⟨zz26 HI0⟩, ⟨zz27⟩, ⟨zz28 HI0⟩⟩
 case round =>
  clear H'
  try clear p2
  try clear c4
  obtain ⟨x3_1, x4_1, x1001_1, rfl, HA, HK1, HO_3, HI0, HK, HB⟩ := hrel
  cases gk with
  | zero => exact absurd HA.out (by simp [spec_l12Blocks.l0])
  | succ k1 =>
   have H := HA.out
   clear HA
   simp only [spec_l12Blocks.l0] at H
   replace H := ic H
   rcases H with ⟨c6b0, H⟩ | ⟨c6b0, H⟩
   ·replace H := Option.bind_eq_some_iff.mp H
    obtain ⟨⟨t237, t238, t239⟩, A70, H⟩ := H
    replace H : (if x3_1.length < 8796093022208 then (spec_l12Blocks.l0 k1 (x3_1 ++ [(⟨t237, t238⟩ : S40)]) (wrap64 (x4_1 - 1)) s0_0 t239) else (none)) = some (r1, r2) := H
    have A7 := Aside0.mk A70
    clear A70
    replace H := gp H
    obtain ⟨c8, H⟩ := H
    have LMc8 := Aside0.mk c8
    clear c8
    obtain ⟨y240, hy240⟩ : ∃ y_ : List (S40), y_ = (x3_1 ++ [(⟨t237, t238⟩ : S40)]) := ⟨_, rfl⟩
    replace H : (spec_l12Blocks.l0 k1 y240 (wrap64 (x4_1 - 1)) s0_0 t239) = some (r1, r2) := by first | (rw [hy240]; with_reducible exact H) | (have H2_ := (Option.bind_some _ _).symm.trans H; rw [hy240]; with_reducible exact H2_) | (have H2_ := (Option.bind_some _ _).symm.trans H; with_reducible exact H2_) | with_reducible exact H | (rw [hy240]; exact H) | exact H
    have Ny240 := Aside0.mk hy240
    clear hy240
    have H' := Aside0.mk H
    clear H
    go_wp2_with (first | (refine gc (some 14) Try.func93 #[.pointer (some ⟨g, 0, none⟩)] ?_; (with_reducible refine (spec_l12Block.calls k1 g s0_0 x1001_1 t237 t238 t239 w0 _ ?side1 ?side2 A7.out).mono ?_); (case side1 => exact zz26 HI0); (case side2 => exact zz28 HI0); rintro e w9 ⟨rfl, hi, hb, hk⟩; refine ⟨_, rfl, ?_⟩; replace HO_3 := Aside0.mk (Kd.R_mono (Kd.R_keep (IsS103.apart (show IsS103 w0 _ g s0_0 x1001_1 from zz26 HI0) (zz12 HO_3) (by decide)) hk (fun _ h => h.2)) (fun _ h => h.1)); replace HK := Aside0.mk (KeepBut.trans zz27 hk (.inl rfl)); replace HB := Aside0.mk hb; replace HI0 := Aside0.mk hi; clear hb hk hi) | ((with_reducible refine gate_builtin (b := .append) (xs := #[.tmp 12, .tmp 15]) rfl ?_); at_builtin; refine Kd.R_append k40 w.heap.size rfl (.tmp 12) (.tmp 15) 25 40 (.agg #[(.int .i64 0), (.int .i64 0)]) 16 rfl Try.underlying25 info40 rfl (by decide) (by omega) u3 x3_1 (⟨t237, t238⟩ : S40) [.int .i64 t237, .int .i64 t238] (fun _ => True) (fun _ => False) rfl rfl ?aP (fun _ hk => hk.elim) ?aF ?aO (Below.refl _ _) ?aS ?aL ?_; (case aP => exact k40_mkM _ _ _ (⟨t237, t238⟩ : S40)); (case aF => exact zz13); (case aO => exact zz12 HO_3); (case aS => exact zz34); (case aL => exact zz3 LMc8); intro v241 w10 ho hb hg hat; rw [← Ny240.out] at ho; replace HB := Aside0.mk (below_weaken (zz28 HI0) HL.out hb); replace HI0 := Aside0.mk (IsS103.grown (zz26 HI0) hg (IsS103.own_ne HI0.out HO_3.out (by decide))); replace HK := Aside0.mk (KeepBut.trans zz27 (KeepBut.of_grown hg g) (Kd.R_base2 HO_3.out)); have HO242 := Aside0.mk ho; clear HO_3 ho hb hg hat))
    go_roundg k1
    case measure => have := HK1.out; omega
    case rel => exact ⟨(y240), (wrap64 (x4_1 - 1)), (t239), zz1, H', ⟨zz3 HK1⟩, ⟨zz12 HO242⟩, ⟨zz26 HI0⟩, ⟨zz27⟩, ⟨zz28 HI0⟩⟩
   ·replace H := Option.bind_eq_some_iff.mp H
    obtain ⟨⟨t243, t244⟩, A110, H⟩ := H
    replace H : (if t243 = 0 then (spec_l12Blocks.l1 k1 x3_1 s0_0 t244) else (some (x3_1, t244))) = some (r1, r2) := H
    have A11 := Aside0.mk A110
    clear A110
    by_cases c12 : t243 = 0
    ·rw [if_pos c12] at H
     have c12b0 : (t243 == 0) = true := beq_iff_eq.mpr c12
     have c12b1 : (t243 != 0) = false := bne_eq_false_iff_eq.mpr c12
     clear c12
     have H' := Aside0.mk H
     clear H
     go_wp2_with (first | (refine gc (some 18) Try.func44 #[.pointer (some ⟨g, 0, none⟩), .int .i64 20] ?_; (with_reducible refine (spec_l1Rd_pick.calls k1 g s0_0 x1001_1 20 t243 t244 w0 _ ?side1 ?side2 A11.out).mono ?_); (case side1 => exact zz26 HI0); (case side2 => exact zz28 HI0); rintro e w13 ⟨rfl, hi, hb, hk⟩; refine ⟨_, rfl, ?_⟩; replace HO_3 := Aside0.mk (Kd.R_mono (Kd.R_keep (IsS103.apart (show IsS103 w0 _ g s0_0 x1001_1 from zz26 HI0) (zz12 HO_3) (by decide)) hk (fun _ h => h.2)) (fun _ h => h.1)); replace HK := Aside0.mk (KeepBut.trans zz27 hk (.inl rfl)); replace HB := Aside0.mk hb; replace HI0 := Aside0.mk hi; clear hb hk hi))
     go_loopg [3] k1 (fun kq v3 w' => ∃ (x3_2 : List (S40)) (x1001_2 : Int), Aside0 (spec_l12Blocks.l1 kq x3_2 s0_0 x1001_2 = some (r1, r2)) ∧ Aside0 (kq ≤ k1) ∧ Aside0 (Kd.R k40 40 w' w.heap.size (fun _ => True) v3 x3_2) ∧ Aside0 (IsS103 w0 w' g s0_0 x1001_2) ∧ Aside0 (KeepBut w w' g none) ∧ Aside0 (Below w0.heap.size w0 w'))
     case atStart => exact ⟨(x3_1), (t244), H', ⟨Nat.le_refl _⟩, ⟨zz12 HO_3⟩, ⟨zz26 HI0⟩, ⟨zz27⟩, ⟨zz28 HI0⟩⟩
     case round =>
      clear H'
      try clear c1
      try clear p2
      try clear c4
      try clear c6
      try clear c6b0
      try clear p6
      try clear c8
      try clear c9
      try clear c12
      try clear c12b0
      try clear c12b1
      try clear p2
      obtain ⟨x3_2, x1001_2, HA, HK2, HO_3, HI0, HK, HB⟩ := hrel
      cases gk with
      | zero => exact absurd HA.out (by simp [spec_l12Blocks.l1])
      | succ k2 =>
       have H := HA.out
       clear HA
       simp only [spec_l12Blocks.l1] at H
       replace H := bd H
       obtain ⟨⟨t245, t246⟩, A14, H⟩ := H
       replace H : (if (x3_2.length : Int) < (wrap64 (64 + t245)) then (if x3_2.length < 8796093022208 then (spec_l12Blocks.l1 k2 (x3_2 ++ [(⟨wrap64 (2 * (x3_2.length : Int)), 32⟩ : S40)]) s0_0 t246) else (none)) else (some (x3_2, t246))) = some (r1, r2) := H
       replace H := ic H
       rcases H with ⟨c15b0, H⟩ | ⟨c15b0, H⟩
       ·replace H := gp H
        obtain ⟨c16, H⟩ := H
        have LMc16 := Aside0.mk c16
        clear c16
        obtain ⟨y247, hy247⟩ : ∃ y_ : List (S40), y_ = (x3_2 ++ [(⟨wrap64 (2 * (x3_2.length : Int)), 32⟩ : S40)]) := ⟨_, rfl⟩
        replace H : (spec_l12Blocks.l1 k2 y247 s0_0 t246) = some (r1, r2) := by first | (rw [hy247]; with_reducible exact H) | (have H2_ := (Option.bind_some _ _).symm.trans H; rw [hy247]; with_reducible exact H2_) | (have H2_ := (Option.bind_some _ _).symm.trans H; with_reducible exact H2_) | with_reducible exact H | (rw [hy247]; exact H) | exact H
        have Ny247 := Aside0.mk hy247
        clear hy247
        have H' := Aside0.mk H
        clear H
        obtain ⟨Ao17, co17, eo17⟩ := Kd.R_slice HO_3.out
        subst eo17
        go_wp2_with (first | (refine gc (some 23) Try.func44 #[.pointer (some ⟨g, 0, none⟩), .int .i64 2] ?_; (with_reducible refine (spec_l1Rd_pick.calls k2 g s0_0 x1001_2 2 t245 t246 w0 _ ?side1 ?side2 A14.out).mono ?_); (case side1 => exact zz26 HI0); (case side2 => exact zz28 HI0); rintro e w18 ⟨rfl, hi, hb, hk⟩; refine ⟨_, rfl, ?_⟩; replace HO_3 := Aside0.mk (Kd.R_mono (Kd.R_keep (IsS103.apart (show IsS103 w0 _ g s0_0 x1001_2 from zz26 HI0) (zz12 HO_3) (by decide)) hk (fun _ h => h.2)) (fun _ h => h.1)); replace HK := Aside0.mk (KeepBut.trans zz27 hk (.inl rfl)); replace HB := Aside0.mk hb; replace HI0 := Aside0.mk hi; clear hb hk hi) | ((with_reducible refine gate_builtin (b := .append) (xs := #[.tmp 26, .tmp 31]) rfl ?_); at_builtin; refine Kd.R_append k40 w.heap.size rfl (.tmp 26) (.tmp 31) 25 40 (.agg #[(.int .i64 0), (.int .i64 0)]) 16 rfl Try.underlying25 info40 rfl (by decide) (by omega) (.slice Ao17 x3_2.length co17) x3_2 (⟨wrap64 (2 * (x3_2.length : Int)), 32⟩ : S40) [.int .i64 (wrap64 (2 * (x3_2.length : Int))), .int .i64 32] (fun _ => True) (fun _ => False) rfl rfl ?aP (fun _ hk => hk.elim) ?aF ?aO (Below.refl _ _) ?aS ?aL ?_; (case aP => exact k40_mkM _ _ _ (⟨wrap64 (2 * (x3_2.length : Int)), 32⟩ : S40)); (case aF => exact zz13); (case aO => exact zz12 HO_3); (case aS => exact zz34); (case aL => exact zz3 LMc16); intro v248 w19 ho hb hg hat; rw [← Ny247.out] at ho; replace HB := Aside0.mk (below_weaken (zz28 HI0) HL.out hb); replace HI0 := Aside0.mk (IsS103.grown (zz26 HI0) hg (IsS103.own_ne HI0.out HO_3.out (by decide))); replace HK := Aside0.mk (KeepBut.trans zz27 (KeepBut.of_grown hg g) (Kd.R_base2 HO_3.out)); have HO249 := Aside0.mk ho; clear HO_3 ho hb hg hat))
        go_roundg k2
        case measure => have := HK1.out; have := HK2.out; omega
        case rel => exact ⟨(y247), (t246), H', ⟨by have := HK1.out; have := HK2.out; omega⟩, ⟨zz12 HO249⟩, ⟨zz26 HI0⟩, ⟨zz27⟩, ⟨zz28 HI0⟩⟩
       ·simp only [Option.some.injEq, Prod.mk.injEq] at H
        obtain ⟨rfl, rfl⟩ := H
        obtain ⟨Ao20, co20, eo20⟩ := Kd.R_slice HO_3.out
        subst eo20
        go_wp2_with (first | (refine gc (some 23) Try.func44 #[.pointer (some ⟨g, 0, none⟩), .int .i64 2] ?_; (with_reducible refine (spec_l1Rd_pick.calls k2 g s0_0 x1001_2 2 t245 t246 w0 _ ?side1 ?side2 A14.out).mono ?_); (case side1 => exact zz26 HI0); (case side2 => exact zz28 HI0); rintro e w21 ⟨rfl, hi, hb, hk⟩; refine ⟨_, rfl, ?_⟩; replace HO_3 := Aside0.mk (Kd.R_mono (Kd.R_keep (IsS103.apart (show IsS103 w0 _ g s0_0 x1001_2 from zz26 HI0) (zz12 HO_3) (by decide)) hk (fun _ h => h.2)) (fun _ h => h.1)); replace HK := Aside0.mk (KeepBut.trans zz27 hk (.inl rfl)); replace HB := Aside0.mk hb; replace HI0 := Aside0.mk hi; clear hb hk hi))
        go_ret
        exact ⟨_, zz8, zz12 HO_3, zz26 HI0, zz28 HI0, zz27⟩
    ·rw [if_neg c12] at H
     have c12b0 : (t243 == 0) = false := beq_eq_false_iff_ne.mpr c12
     have c12b1 : (t243 != 0) = true := bne_iff_ne.mpr c12
     simp only [Option.some.injEq, Prod.mk.injEq] at H
     obtain ⟨rfl, rfl⟩ := H
     go_wp2_with (first | (refine gc (some 18) Try.func44 #[.pointer (some ⟨g, 0, none⟩), .int .i64 20] ?_; (with_reducible refine (spec_l1Rd_pick.calls k1 g s0_0 x1001_1 20 t243 t244 w0 _ ?side1 ?side2 A11.out).mono ?_); (case side1 => exact zz26 HI0); (case side2 => exact zz28 HI0); rintro e w22 ⟨rfl, hi, hb, hk⟩; refine ⟨_, rfl, ?_⟩; replace HO_3 := Aside0.mk (Kd.R_mono (Kd.R_keep (IsS103.apart (show IsS103 w0 _ g s0_0 x1001_1 from zz26 HI0) (zz12 HO_3) (by decide)) hk (fun _ h => h.2)) (fun _ h => h.1)); replace HK := Aside0.mk (KeepBut.trans zz27 hk (.inl rfl)); replace HB := Aside0.mk hb; replace HI0 := Aside0.mk hi; clear hb hk hi))
     go_ret
     exact ⟨_, zz8, zz12 HO_3, zz26 HI0, zz28 HI0, zz27⟩

end Go.Proofs.Ythkjkmgbdahggaa.PO
