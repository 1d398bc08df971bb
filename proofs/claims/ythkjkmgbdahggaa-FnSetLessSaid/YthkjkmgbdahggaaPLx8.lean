/- A text printed by this session's wip/myprint.py over the kit's print: contracts of functions of the given program, each at what its Lean function says. -/
import Derived.Test.YthkjkmgbdahggaaPLx0
import Derived.Test.YthkjkmgbdahggaaPLx7
namespace Go.Proofs.Ythkjkmgbdahggaa.PL
open Go.RowKit Go.Proofs.YthkjkmgbdahggaaW.PrintWords Go.Proofs.YthkjkmgbdahggaaW.PrintLast Go.Proofs.YthkjkmgbdahggaaW.PrintMore Go.Proofs.Ythkjkmgbdahggaa.Sq
attribute [local go_sem] max2_int min2_int max_two min_two max_three min_three max_four min_four   -- for this text's walks alone
set_option linter.unusedVariables false
set_option linter.unusedSimpArgs false
def spec_l1Rd_pick.j0 : Nat → Int → Bool → List Int → Int → Option (Int × Int)
 | 0, _, _, _, _ => none
 | k + 1, x1, x24, x1000, x1001 => if x24 = true then (some (0, x1001)) else (if (wrap64 (x1001 - 1)) < (x1000.length : Int) then (if 0 ≤ (wrap64 (x1001 - 1)) then (if x1 = 0 then (none) else (some (Int.tmod (wrap64 (rd x1000 (wrap64 (x1001 - 1)))) x1, x1001))) else (none)) else (if (x1000.length : Int) = 0 then (none) else (if 0 ≤ (Int.tmod (wrap64 (x1001 - 1)) (x1000.length : Int)) then (if (Int.tmod (wrap64 (x1001 - 1)) (x1000.length : Int)) < (x1000.length : Int) then (if 0 ≤ (Int.tmod (wrap64 ((wrap64 ((wrap64 (x1001 - 1)) * 7)) + 3)) (x1000.length : Int)) then (if (Int.tmod (wrap64 ((wrap64 ((wrap64 (x1001 - 1)) * 7)) + 3)) (x1000.length : Int)) < (x1000.length : Int) then (if x1 = 0 then (none) else (some (Int.tmod (Go.bits .xor .i64 (wrap64 ((wrap64 ((wrap64 ((wrap64 ((wrap64 (rd x1000 (Int.tmod (wrap64 (x1001 - 1)) (x1000.length : Int)))) * 131)) + (wrap64 ((wrap64 (rd x1000 (Int.tmod (wrap64 ((wrap64 ((wrap64 (x1001 - 1)) * 7)) + 3)) (x1000.length : Int)))) * 1117)))) + (wrap64 ((wrap64 (x1001 - 1)) * 29)))) + (wrap64 ((wrap64 (Int.tdiv (wrap64 (x1001 - 1)) (x1000.length : Int))) * 53)))) (wrap64 (Int.tdiv (wrap64 ((wrap64 ((wrap64 ((wrap64 ((wrap64 (rd x1000 (Int.tmod (wrap64 (x1001 - 1)) (x1000.length : Int)))) * 131)) + (wrap64 ((wrap64 (rd x1000 (Int.tmod (wrap64 ((wrap64 ((wrap64 (x1001 - 1)) * 7)) + 3)) (x1000.length : Int)))) * 1117)))) + (wrap64 ((wrap64 (x1001 - 1)) * 29)))) + (wrap64 ((wrap64 (Int.tdiv (wrap64 (x1001 - 1)) (x1000.length : Int))) * 53)))) 64))) x1, x1001))) else (none)) else (none)) else (none)) else (none))))
def spec_l1Rd_pick.f (k : Nat) (s0_0 : List Int) (s0_1 : Int) (a1 : Int) : Option (Int × Int) := if a1 < 1 then (spec_l1Rd_pick.j0 k a1 true s0_0 (wrap64 (s0_1 + 1))) else (spec_l1Rd_pick.j0 k a1 ((s0_0.length : Int) == 0) s0_0 (wrap64 (s0_1 + 1)))
set_option maxHeartbeats 8000000 in
set_option maxRecDepth 100000 in
theorem spec_l1Rd_pick.calls (k : Nat) (g : Nat) (s0_0 : List Int) (s0_1 : Int) (a1 : Int) (r1 : Int) (r2 : Int) (w0 w : World) (hI : IsS103 w0 w g s0_0 s0_1) (hB : Below w0.heap.size w0 w) (h : spec_l1Rd_pick.f k s0_0 s0_1 a1 = some (r1, r2)) :
  Calls Try.prog 44 #[.pointer (some ⟨g, 0, none⟩), .int .i64 a1] w fun e w' => e = .returned (.int .i64 r1) ∧ IsS103 w0 w' g s0_0 r2 ∧ Below w0.heap.size w0 w' ∧ KeepBut w w' g none := by
 have HI0 := Aside0.mk hI
 have HK := Aside0.mk (KeepBut.refl w g none)
 have HL := Aside0.mk hB.size
 clear hI
 have HW0 := Aside0.mk hB.size
 have HB := Aside0.mk hB
 clear hB
 have H : (if a1 < 1 then (spec_l1Rd_pick.j0 k a1 true s0_0 (wrap64 (s0_1 + 1))) else (spec_l1Rd_pick.j0 k a1 ((s0_0.length : Int) == 0) s0_0 (wrap64 (s0_1 + 1)))) = some (r1, r2) := h
 clear h
 have HC3 := Aside0.mk H
 clear H
 obtain ⟨ASz4_0, cSz4_0, HGz4, hgz4, HSz4_0⟩ := HI0.out
 have hcz4_0 := cellS103_0 HGz4
 have hcz4_1 := cellS103_1 HGz4
 have hfz4_1 := blk_frozen HGz4 1
 clear HGz4 hgz4
 go_enter Try.func44, Try.ntmps44
 go_upto_region 2 with (fail)
 repeat (go_quiet (fail); go_upto_region 2 with (fail))
 go_cut [24] (fun v24 wc => ∃ (kq : Nat) (x24_2 : Bool), v24 = .bool x24_2 ∧ Aside0 (spec_l1Rd_pick.j0 kq a1 x24_2 s0_0 (wrap64 (s0_1 + 1)) = some (r1, r2)) ∧ Aside0 (kq ≤ k) ∧ Aside0 (IsS103 w0 wc g s0_0 (wrap64 (s0_1 + 1))) ∧ Aside0 (KeepBut w wc g none) ∧ Aside0 (Below w0.heap.size w0 wc))
 case first =>
  have H := HC3.out
  clear HC3
  replace H := ic H
  rcases H with ⟨c5b0, H⟩ | ⟨c5b0, H⟩
  ·(first | rw [c5b0] | (simp only [i64_w, i32_w]; rw [c5b0]) | skip)
   have H' := Aside0.mk H
   clear H
   go_wp2
   repeat (go_quiet (fail); try go_wp2)
   go_meet
   case rel => exact ⟨_, (true), zz1, H', ⟨zz26⟩, ⟨zz27 HI0⟩, ⟨zz28⟩, ⟨zz29 HI0⟩⟩
  ·(first | rw [c5b0] | (simp only [i64_w, i32_w]; rw [c5b0]) | skip)
   have H' := Aside0.mk H
   clear H
   obtain ⟨ASz6_0, cSz6_0, HGz6, hgz6, HSz6_0⟩ := HI0.out
   have hcz6_0 := cellS103_0 HGz6
   have hcz6_1 := cellS103_1 HGz6
   have hfz6_1 := blk_frozen HGz6 1
   clear HGz6 hgz6
   go_wp2
   repeat (go_quiet (fail); try go_wp2)
   go_meet
   case rel => exact ⟨_, (((s0_0.length : Int) == 0)), zz1, H', ⟨zz26⟩, ⟨zz27 HI0⟩, ⟨zz28⟩, ⟨zz29 HI0⟩⟩
 case rest =>
  clear HC3
  try clear p2
  try clear c4
  try clear c5
  try clear c5b0
  try clear p6
  try clear hcz4_0
  try clear hcz4_1
  try clear hcz6_0
  try clear hcz6_1
  try clear hfz4_1
  try clear hfz6_1
  obtain ⟨kq, x24_2, rfl, HA, HJ2, HI0, HK, HB⟩ := hcut
  cases kq with
  | zero => exact absurd HA.out (by simp [spec_l1Rd_pick.j0])
  | succ kj2 =>
   have H := HA.out
   clear HA
   simp only [spec_l1Rd_pick.j0] at H
   by_cases c7 : x24_2 = true
   ·subst c7
    have H1 : (some (0, (wrap64 (s0_1 + 1)))) = some (r1, r2) := by rw [if_pos rfl] at H; exact H
    clear H
    have H := H1
    clear H1
    simp only [Option.some.injEq, Prod.mk.injEq] at H
    obtain ⟨rfl, rfl⟩ := H
    go_wp2
    repeat (go_quiet (fail); try go_wp2)
    go_ret
    exact ⟨zz8, zz27 HI0, zz29 HI0, zz28⟩
   ·replace c7 := Bool.eq_false_iff.mpr c7
    subst c7
    have H1 : (if (wrap64 ((wrap64 (s0_1 + 1)) - 1)) < (s0_0.length : Int) then (if 0 ≤ (wrap64 ((wrap64 (s0_1 + 1)) - 1)) then (if a1 = 0 then (none) else (some (Int.tmod (wrap64 (rd s0_0 (wrap64 ((wrap64 (s0_1 + 1)) - 1)))) a1, (wrap64 (s0_1 + 1))))) else (none)) else (if (s0_0.length : Int) = 0 then (none) else (if 0 ≤ (Int.tmod (wrap64 ((wrap64 (s0_1 + 1)) - 1)) (s0_0.length : Int)) then (if (Int.tmod (wrap64 ((wrap64 (s0_1 + 1)) - 1)) (s0_0.length : Int)) < (s0_0.length : Int) then (if 0 ≤ (Int.tmod (wrap64 ((wrap64 ((wrap64 ((wrap64 (s0_1 + 1)) - 1)) * 7)) + 3)) (s0_0.length : Int)) then (if (Int.tmod (wrap64 ((wrap64 ((wrap64 ((wrap64 (s0_1 + 1)) - 1)) * 7)) + 3)) (s0_0.length : Int)) < (s0_0.length : Int) then (if a1 = 0 then (none) else (some (Int.tmod (Go.bits .xor .i64 (wrap64 ((wrap64 ((wrap64 ((wrap64 ((wrap64 (rd s0_0 (Int.tmod (wrap64 ((wrap64 (s0_1 + 1)) - 1)) (s0_0.length : Int)))) * 131)) + (wrap64 ((wrap64 (rd s0_0 (Int.tmod (wrap64 ((wrap64 ((wrap64 ((wrap64 (s0_1 + 1)) - 1)) * 7)) + 3)) (s0_0.length : Int)))) * 1117)))) + (wrap64 ((wrap64 ((wrap64 (s0_1 + 1)) - 1)) * 29)))) + (wrap64 ((wrap64 (Int.tdiv (wrap64 ((wrap64 (s0_1 + 1)) - 1)) (s0_0.length : Int))) * 53)))) (wrap64 (Int.tdiv (wrap64 ((wrap64 ((wrap64 ((wrap64 ((wrap64 (rd s0_0 (Int.tmod (wrap64 ((wrap64 (s0_1 + 1)) - 1)) (s0_0.length : Int)))) * 131)) + (wrap64 ((wrap64 (rd s0_0 (Int.tmod (wrap64 ((wrap64 ((wrap64 ((wrap64 (s0_1 + 1)) - 1)) * 7)) + 3)) (s0_0.length : Int)))) * 1117)))) + (wrap64 ((wrap64 ((wrap64 (s0_1 + 1)) - 1)) * 29)))) + (wrap64 ((wrap64 (Int.tdiv (wrap64 ((wrap64 (s0_1 + 1)) - 1)) (s0_0.length : Int))) * 53)))) 64))) a1, (wrap64 (s0_1 + 1))))) else (none)) else (none)) else (none)) else (none)))) = some (r1, r2) := by rw [if_neg (show ¬ (false = true) by decide)] at H; exact H
    clear H
    have H := H1
    clear H1
    replace H := ic H
    rcases H with ⟨c8b0, H⟩ | ⟨c8b0, H⟩
    ·obtain ⟨ji9, hji9⟩ : ∃ j_ : Int, (wrap64 ((wrap64 (s0_1 + 1)) - 1)) = j_ := ⟨_, rfl⟩
     replace H : (if 0 ≤ (ji9) then (if a1 = 0 then (none) else (some (Int.tmod (wrap64 (rd s0_0 (ji9))) a1, (wrap64 (s0_1 + 1))))) else (none)) = some (r1, r2) := by first | (rw [hji9] at H; exact H) | (simp only [hji9] at H ⊢; exact H)
     (try rw [hji9] at c8b0)
     have hji9w : (IntKind.i64.wrap ((wrap64 (s0_1 + 1)) - 1)) = ji9 := (i64_w _).trans hji9
     replace H := gd H
     obtain ⟨c10b0, H⟩ := H
     replace H := gn H
     obtain ⟨c11, H⟩ := H
     have c11b0 : (a1 == 0) = false := beq_eq_false_iff_ne.mpr c11
     have c11b1 : (a1 != 0) = true := bne_iff_ne.mpr c11
     simp only [Option.some.injEq, Prod.mk.injEq] at H
     obtain ⟨rfl, rfl⟩ := H
     obtain ⟨ASz12_0, cSz12_0, HGz12, hgz12, HSz12_0⟩ := HI0.out
     have hcz12_0 := cellS103_0 HGz12
     have hcz12_1 := cellS103_1 HGz12
     have hfz12_1 := blk_frozen HGz12 1
     clear HGz12 hgz12
     have p197 : 0 ≤ ((ji9) : Int) := da
     have q197 : (ji9) < (s0_0.length : Int) := da
     obtain ⟨ad197, e197, hx197_0⟩ := Kd.at_int HSz12_0 (ji9) p197 q197
     cases e197
     replace hx197_0 := pw_cell_below HB.out hx197_0
     replace p197 := eq_true p197
     replace q197 := eq_true q197
     go_wp2
     repeat (go_quiet (fail); try go_wp2)
     go_ret
     exact ⟨by first | rfl | (simp [errW_none, errW_some] <;> rfl) | (simp only [← hji9]; first | rfl | (simp [errW_none, errW_some] <;> rfl)) | (simp [*, errW_none, errW_some] <;> rfl), zz27 HI0, zz29 HI0, zz28⟩
    ·replace H := gn H
     obtain ⟨c13, H⟩ := H
     have c13b0 : ((s0_0.length : Int) == 0) = false := beq_eq_false_iff_ne.mpr c13
     have c13b1 : ((s0_0.length : Int) != 0) = true := bne_iff_ne.mpr c13
     have c13b2 : ¬ (s0_0 = []) := fun h_ => c13 (by rw [h_]; rfl)
     obtain ⟨ji14, hji14⟩ : ∃ j_ : Int, (Int.tmod (wrap64 ((wrap64 (s0_1 + 1)) - 1)) (s0_0.length : Int)) = j_ := ⟨_, rfl⟩
     replace H : (if 0 ≤ (ji14) then (if (ji14) < (s0_0.length : Int) then (if 0 ≤ (Int.tmod (wrap64 ((wrap64 ((wrap64 ((wrap64 (s0_1 + 1)) - 1)) * 7)) + 3)) (s0_0.length : Int)) then (if (Int.tmod (wrap64 ((wrap64 ((wrap64 ((wrap64 (s0_1 + 1)) - 1)) * 7)) + 3)) (s0_0.length : Int)) < (s0_0.length : Int) then (if a1 = 0 then (none) else (some (Int.tmod (Go.bits .xor .i64 (wrap64 ((wrap64 ((wrap64 ((wrap64 ((wrap64 (rd s0_0 (ji14))) * 131)) + (wrap64 ((wrap64 (rd s0_0 (Int.tmod (wrap64 ((wrap64 ((wrap64 ((wrap64 (s0_1 + 1)) - 1)) * 7)) + 3)) (s0_0.length : Int)))) * 1117)))) + (wrap64 ((wrap64 ((wrap64 (s0_1 + 1)) - 1)) * 29)))) + (wrap64 ((wrap64 (Int.tdiv (wrap64 ((wrap64 (s0_1 + 1)) - 1)) (s0_0.length : Int))) * 53)))) (wrap64 (Int.tdiv (wrap64 ((wrap64 ((wrap64 ((wrap64 ((wrap64 (rd s0_0 (ji14))) * 131)) + (wrap64 ((wrap64 (rd s0_0 (Int.tmod (wrap64 ((wrap64 ((wrap64 ((wrap64 (s0_1 + 1)) - 1)) * 7)) + 3)) (s0_0.length : Int)))) * 1117)))) + (wrap64 ((wrap64 ((wrap64 (s0_1 + 1)) - 1)) * 29)))) + (wrap64 ((wrap64 (Int.tdiv (wrap64 ((wrap64 (s0_1 + 1)) - 1)) (s0_0.length : Int))) * 53)))) 64))) a1, (wrap64 (s0_1 + 1))))) else (none)) else (none)) else (none)) else (none)) = some (r1, r2) := by first | (rw [hji14] at H; exact H) | (simp only [hji14] at H ⊢; exact H)
     by_cases c15 : 0 ≤ (ji14)
     ·rw [if_pos c15] at H
      have c15b0 : decide (0 ≤ (ji14)) = true := decide_eq_true c15
      clear c15
      replace H := gd H
      obtain ⟨c16b0, H⟩ := H
      obtain ⟨ji17, hji17⟩ : ∃ j_ : Int, (Int.tmod (wrap64 ((wrap64 ((wrap64 ((wrap64 (s0_1 + 1)) - 1)) * 7)) + 3)) (s0_0.length : Int)) = j_ := ⟨_, rfl⟩
      replace H : (if 0 ≤ (ji17) then (if (ji17) < (s0_0.length : Int) then (if a1 = 0 then (none) else (some (Int.tmod (Go.bits .xor .i64 (wrap64 ((wrap64 ((wrap64 ((wrap64 ((wrap64 (rd s0_0 (ji14))) * 131)) + (wrap64 ((wrap64 (rd s0_0 (ji17))) * 1117)))) + (wrap64 ((wrap64 ((wrap64 (s0_1 + 1)) - 1)) * 29)))) + (wrap64 ((wrap64 (Int.tdiv (wrap64 ((wrap64 (s0_1 + 1)) - 1)) (s0_0.length : Int))) * 53)))) (wrap64 (Int.tdiv (wrap64 ((wrap64 ((wrap64 ((wrap64 ((wrap64 (rd s0_0 (ji14))) * 131)) + (wrap64 ((wrap64 (rd s0_0 (ji17))) * 1117)))) + (wrap64 ((wrap64 ((wrap64 (s0_1 + 1)) - 1)) * 29)))) + (wrap64 ((wrap64 (Int.tdiv (wrap64 ((wrap64 (s0_1 + 1)) - 1)) (s0_0.length : Int))) * 53)))) 64))) a1, (wrap64 (s0_1 + 1))))) else (none)) else (none)) = some (r1, r2) := by first | (rw [hji17] at H; exact H) | (simp only [hji17] at H ⊢; exact H)
      replace H := gd H
      obtain ⟨c18b0, H⟩ := H
      replace H := gd H
      obtain ⟨c19b0, H⟩ := H
      replace H := gn H
      obtain ⟨c20, H⟩ := H
      have c20b0 : (a1 == 0) = false := beq_eq_false_iff_ne.mpr c20
      have c20b1 : (a1 != 0) = true := bne_iff_ne.mpr c20
      simp only [Option.some.injEq, Prod.mk.injEq] at H
      obtain ⟨rfl, rfl⟩ := H
      obtain ⟨ASz21_0, cSz21_0, HGz21, hgz21, HSz21_0⟩ := HI0.out
      have hcz21_0 := cellS103_0 HGz21
      have hcz21_1 := cellS103_1 HGz21
      have hfz21_1 := blk_frozen HGz21 1
      clear HGz21 hgz21
      have p198 : 0 ≤ ((ji14) : Int) := da
      have q198 : (ji14) < (s0_0.length : Int) := da
      obtain ⟨ad198, e198, hx198_0⟩ := Kd.at_int HSz21_0 (ji14) p198 q198
      cases e198
      replace hx198_0 := pw_cell_below HB.out hx198_0
      replace p198 := eq_true p198
      replace q198 := eq_true q198
      have p199 : 0 ≤ ((ji17) : Int) := da
      have q199 : (ji17) < (s0_0.length : Int) := da
      obtain ⟨ad199, e199, hx199_0⟩ := Kd.at_int HSz21_0 (ji17) p199 q199
      obtain rfl : ad198 = ad199 := (by injection e199)
      replace hx199_0 := pw_cell_below HB.out hx199_0
      replace p199 := eq_true p199
      replace q199 := eq_true q199
      go_wp2
      repeat (go_quiet (fail); try go_wp2)
      go_ret
      exact ⟨by first | rfl | (simp [errW_none, errW_some] <;> rfl) | (simp only [← hji14, ← hji17]; first | rfl | (simp [errW_none, errW_some] <;> rfl)) | (simp [*, errW_none, errW_some] <;> rfl), zz27 HI0, zz29 HI0, zz28⟩
     ·rw [if_neg c15] at H
      exact absurd H (by simp)
def spec_l1Rd_one.f (k : Nat) (s0_0 : List Int) (s0_1 : Int) (l1 : List Int) : Option (Int × Int) := (spec_l1Rd_pick.f k s0_0 s0_1 (l1.length : Int)).bind fun bt200 => (if 0 ≤ bt200.1 then (if bt200.1 < (l1.length : Int) then (some (rd l1 bt200.1, bt200.2)) else (none)) else (none))
set_option maxHeartbeats 8000000 in
set_option maxRecDepth 100000 in
theorem spec_l1Rd_one.calls (k : Nat) (g : Nat) (s0_0 : List Int) (s0_1 : Int) (A1 : Option Addr) (c1 : Nat) (l1 : List Int) (r1 : Int) (r2 : Int) (w0 w : World) (hI : IsS103 w0 w g s0_0 s0_1) (hB : Below w0.heap.size w0 w) (hr1 : Kd.C (Kd.int .i64) w A1 l1.length l1) (hc1 : l1.length ≤ c1) (hf1 : ∀ ad, A1 = some ad → 0 < l1.length → ad.block ≠ g) (h : spec_l1Rd_one.f k s0_0 s0_1 l1 = some (r1, r2)) :
  Calls Try.prog 45 #[.pointer (some ⟨g, 0, none⟩), .slice A1 l1.length c1] w fun e w' => e = .returned (.int .i64 r1) ∧ IsS103 w0 w' g s0_0 r2 ∧ Below w0.heap.size w0 w' ∧ KeepBut w w' g none := by
 have HR1 := Aside0.mk hr1
 have HC1 := Aside0.mk hc1
 clear hr1 hc1
 have HI0 := Aside0.mk hI
 have HK := Aside0.mk (KeepBut.refl w g none)
 have HL := Aside0.mk hB.size
 clear hI
 have HW0 := Aside0.mk hB.size
 have HB := Aside0.mk hB
 clear hB
 have H : ((spec_l1Rd_pick.f k s0_0 s0_1 (l1.length : Int)).bind fun bt200 => (if 0 ≤ bt200.1 then (if bt200.1 < (l1.length : Int) then (some (rd l1 bt200.1, bt200.2)) else (none)) else (none))) = some (r1, r2) := h
 clear h
 replace H := bd H
 obtain ⟨⟨t200, t201⟩, A3, H⟩ := H
 replace H : (if 0 ≤ t200 then (if t200 < (l1.length : Int) then (some (rd l1 t200, t201)) else (none)) else (none)) = some (r1, r2) := H
 by_cases c4 : 0 ≤ t200
 ·rw [if_pos c4] at H
  have c4b0 : decide (0 ≤ t200) = true := decide_eq_true c4
  clear c4
  replace H := gd H
  obtain ⟨c5b0, H⟩ := H
  simp only [Option.some.injEq, Prod.mk.injEq] at H
  obtain ⟨rfl, rfl⟩ := H
  go_enter Try.func45, Try.ntmps45
  go_wp2_with (first | (refine gc (some 9) Try.func44 #[.pointer (some ⟨g, 0, none⟩), .int .i64 (l1.length : Int)] ?_; (with_reducible refine (spec_l1Rd_pick.calls k g s0_0 s0_1 (l1.length : Int) t200 t201 w0 _ ?side1 ?side2 A3.out).mono ?_); (case side1 => exact zz27 HI0); (case side2 => exact zz29 HI0); rintro e w6 ⟨rfl, hi, hb, hk⟩; refine ⟨_, rfl, ?_⟩; replace HK := Aside0.mk (KeepBut.trans zz28 hk (.inl rfl)); replace HB := Aside0.mk hb; replace HI0 := Aside0.mk hi; clear hb hk hi; have p202 : 0 ≤ (t200 : Int) := of_decide_eq_true zz10; have q202 : t200 < (l1.length : Int) := of_decide_eq_true zz10; obtain ⟨ad202, e202, hx202_0⟩ := Kd.at_int HR1.out t200 p202 q202; cases e202; replace hx202_0 := keep_cell HK.out hx202_0 (by first | (rw [add_block]; exact hf1 _ rfl (by omega)) | exact hf1 _ rfl (by omega) | exact hf1 ad202 rfl (by omega)); replace p202 := eq_true p202; replace q202 := eq_true q202))
  go_ret
  exact ⟨zz8, zz27 HI0, zz29 HI0, zz28⟩
 ·rw [if_neg c4] at H
  exact absurd H (by simp)
def spec_l12Addr.f (k : Nat) (s0_0 : List Int) (s0_1 : Int) : Option (Int × Int) := (spec_l1Rd_pick.f k s0_0 s0_1 256).bind fun bt203 => ((spec_l1Rd_pick.f k s0_0 bt203.2 8).bind fun bt205 => ((spec_l1Rd_pick.f k s0_0 bt205.2 16).bind fun bt207 => ((spec_l1Rd_pick.f k s0_0 bt207.2 256).bind fun bt209 => ((spec_l1Rd_pick.f k s0_0 bt209.2 64).bind fun bt211 => ((spec_l1Rd_one.f k s0_0 bt211.2 (([wrap64 (167772160 + bt203.1), wrap64 (167772160 + bt205.1), wrap64 (167772416 + bt207.1), wrap64 (3232235520 + bt209.1), 0, 4294967295, 184549375, wrap64 (2886729728 + (wrap64 (bt211.1 * 256)))] : List Int))).bind fun bt216 => (some (bt216.1, bt216.2)))))))
set_option maxHeartbeats 8000000 in
set_option maxRecDepth 100000 in
theorem spec_l12Addr.calls (k : Nat) (g : Nat) (s0_0 : List Int) (s0_1 : Int) (r1 : Int) (r2 : Int) (w0 w : World) (hI : IsS103 w0 w g s0_0 s0_1) (hB : Below w0.heap.size w0 w) (h : spec_l12Addr.f k s0_0 s0_1 = some (r1, r2)) :
  Calls Try.prog 88 #[.pointer (some ⟨g, 0, none⟩)] w fun e w' => e = .returned (.int .i64 r1) ∧ IsS103 w0 w' g s0_0 r2 ∧ Below w0.heap.size w0 w' ∧ KeepBut w w' g none := by
 have HI0 := Aside0.mk hI
 have HK := Aside0.mk (KeepBut.refl w g none)
 have HL := Aside0.mk hB.size
 clear hI
 have HW0 := Aside0.mk hB.size
 have HB := Aside0.mk hB
 clear hB
 have H : ((spec_l1Rd_pick.f k s0_0 s0_1 256).bind fun bt203 => ((spec_l1Rd_pick.f k s0_0 bt203.2 8).bind fun bt205 => ((spec_l1Rd_pick.f k s0_0 bt205.2 16).bind fun bt207 => ((spec_l1Rd_pick.f k s0_0 bt207.2 256).bind fun bt209 => ((spec_l1Rd_pick.f k s0_0 bt209.2 64).bind fun bt211 => ((spec_l1Rd_one.f k s0_0 bt211.2 (([wrap64 (167772160 + bt203.1), wrap64 (167772160 + bt205.1), wrap64 (167772416 + bt207.1), wrap64 (3232235520 + bt209.1), 0, 4294967295, 184549375, wrap64 (2886729728 + (wrap64 (bt211.1 * 256)))] : List Int))).bind fun bt216 => (some (bt216.1, bt216.2)))))))) = some (r1, r2) := h
 clear h
 replace H := bd H
 obtain ⟨⟨t203, t204⟩, A2, H⟩ := H
 replace H : ((spec_l1Rd_pick.f k s0_0 t204 8).bind fun bt205 => ((spec_l1Rd_pick.f k s0_0 bt205.2 16).bind fun bt207 => ((spec_l1Rd_pick.f k s0_0 bt207.2 256).bind fun bt209 => ((spec_l1Rd_pick.f k s0_0 bt209.2 64).bind fun bt211 => ((spec_l1Rd_one.f k s0_0 bt211.2 (([wrap64 (167772160 + t203), wrap64 (167772160 + bt205.1), wrap64 (167772416 + bt207.1), wrap64 (3232235520 + bt209.1), 0, 4294967295, 184549375, wrap64 (2886729728 + (wrap64 (bt211.1 * 256)))] : List Int))).bind fun bt216 => (some (bt216.1, bt216.2))))))) = some (r1, r2) := H
 replace H := bd H
 obtain ⟨⟨t205, t206⟩, A3, H⟩ := H
 replace H : ((spec_l1Rd_pick.f k s0_0 t206 16).bind fun bt207 => ((spec_l1Rd_pick.f k s0_0 bt207.2 256).bind fun bt209 => ((spec_l1Rd_pick.f k s0_0 bt209.2 64).bind fun bt211 => ((spec_l1Rd_one.f k s0_0 bt211.2 (([wrap64 (167772160 + t203), wrap64 (167772160 + t205), wrap64 (167772416 + bt207.1), wrap64 (3232235520 + bt209.1), 0, 4294967295, 184549375, wrap64 (2886729728 + (wrap64 (bt211.1 * 256)))] : List Int))).bind fun bt216 => (some (bt216.1, bt216.2)))))) = some (r1, r2) := H
 replace H := bd H
 obtain ⟨⟨t207, t208⟩, A4, H⟩ := H
 replace H : ((spec_l1Rd_pick.f k s0_0 t208 256).bind fun bt209 => ((spec_l1Rd_pick.f k s0_0 bt209.2 64).bind fun bt211 => ((spec_l1Rd_one.f k s0_0 bt211.2 (([wrap64 (167772160 + t203), wrap64 (167772160 + t205), wrap64 (167772416 + t207), wrap64 (3232235520 + bt209.1), 0, 4294967295, 184549375, wrap64 (2886729728 + (wrap64 (bt211.1 * 256)))] : List Int))).bind fun bt216 => (some (bt216.1, bt216.2))))) = some (r1, r2) := H
 replace H := bd H
 obtain ⟨⟨t209, t210⟩, A5, H⟩ := H
 replace H : ((spec_l1Rd_pick.f k s0_0 t210 64).bind fun bt211 => ((spec_l1Rd_one.f k s0_0 bt211.2 (([wrap64 (167772160 + t203), wrap64 (167772160 + t205), wrap64 (167772416 + t207), wrap64 (3232235520 + t209), 0, 4294967295, 184549375, wrap64 (2886729728 + (wrap64 (bt211.1 * 256)))] : List Int))).bind fun bt216 => (some (bt216.1, bt216.2)))) = some (r1, r2) := H
 replace H := bd H
 obtain ⟨⟨t211, t212⟩, A6, H⟩ := H
 replace H : ((spec_l1Rd_one.f k s0_0 t212 (([wrap64 (167772160 + t203), wrap64 (167772160 + t205), wrap64 (167772416 + t207), wrap64 (3232235520 + t209), 0, 4294967295, 184549375, wrap64 (2886729728 + (wrap64 (t211 * 256)))] : List Int))).bind fun bt216 => (some (bt216.1, bt216.2))) = some (r1, r2) := H
 obtain ⟨y213, hy213⟩ : ∃ y_ : List Int, y_ = (([wrap64 (167772160 + t203), wrap64 (167772160 + t205), wrap64 (167772416 + t207), wrap64 (3232235520 + t209), 0, 4294967295, 184549375, wrap64 (2886729728 + (wrap64 (t211 * 256)))] : List Int)) := ⟨_, rfl⟩
 replace H : ((spec_l1Rd_one.f k s0_0 t212 y213).bind fun bt216 => (some (bt216.1, bt216.2))) = some (r1, r2) := by first | (rw [hy213]; with_reducible exact H) | (have H2_ := (Option.bind_some _ _).symm.trans H; rw [hy213]; with_reducible exact H2_) | (have H2_ := (Option.bind_some _ _).symm.trans H; with_reducible exact H2_) | with_reducible exact H | (rw [hy213]; exact H) | exact H
 have Ny213 := Aside0.mk hy213
 clear hy213
 replace H := bd H
 obtain ⟨⟨t216, t217⟩, A7, H⟩ := H
 replace H : (some (t216, t217)) = some (r1, r2) := H
 simp only [Option.some.injEq, Prod.mk.injEq] at H
 obtain ⟨rfl, rfl⟩ := H
 go_enter Try.func88, Try.ntmps88
 go_wp2_with (first | (refine gc (some 5) Try.func44 #[.pointer (some ⟨g, 0, none⟩), .int .i64 256] ?_; (with_reducible refine (spec_l1Rd_pick.calls k g s0_0 s0_1 256 t203 t204 w0 _ ?side1 ?side2 A2.out).mono ?_); (case side1 => exact zz27 HI0); (case side2 => exact zz29 HI0); rintro e w8 ⟨rfl, hi, hb, hk⟩; refine ⟨_, rfl, ?_⟩; replace HK := Aside0.mk (KeepBut.trans zz28 hk (.inl rfl)); replace HB := Aside0.mk hb; replace HI0 := Aside0.mk hi; clear hb hk hi) | (refine gc (some 8) Try.func44 #[.pointer (some ⟨g, 0, none⟩), .int .i64 8] ?_; (with_reducible refine (spec_l1Rd_pick.calls k g s0_0 t204 8 t205 t206 w0 _ ?side1 ?side2 A3.out).mono ?_); (case side1 => exact zz27 HI0); (case side2 => exact zz29 HI0); rintro e w9 ⟨rfl, hi, hb, hk⟩; refine ⟨_, rfl, ?_⟩; replace HK := Aside0.mk (KeepBut.trans zz28 hk (.inl rfl)); replace HB := Aside0.mk hb; replace HI0 := Aside0.mk hi; clear hb hk hi) | (refine gc (some 11) Try.func44 #[.pointer (some ⟨g, 0, none⟩), .int .i64 16] ?_; (with_reducible refine (spec_l1Rd_pick.calls k g s0_0 t206 16 t207 t208 w0 _ ?side1 ?side2 A4.out).mono ?_); (case side1 => exact zz27 HI0); (case side2 => exact zz29 HI0); rintro e w10 ⟨rfl, hi, hb, hk⟩; refine ⟨_, rfl, ?_⟩; replace HK := Aside0.mk (KeepBut.trans zz28 hk (.inl rfl)); replace HB := Aside0.mk hb; replace HI0 := Aside0.mk hi; clear hb hk hi) | (refine gc (some 14) Try.func44 #[.pointer (some ⟨g, 0, none⟩), .int .i64 256] ?_; (with_reducible refine (spec_l1Rd_pick.calls k g s0_0 t208 256 t209 t210 w0 _ ?side1 ?side2 A5.out).mono ?_); (case side1 => exact zz27 HI0); (case side2 => exact zz29 HI0); rintro e w11 ⟨rfl, hi, hb, hk⟩; refine ⟨_, rfl, ?_⟩; replace HK := Aside0.mk (KeepBut.trans zz28 hk (.inl rfl)); replace HB := Aside0.mk hb; replace HI0 := Aside0.mk hi; clear hb hk hi) | (refine gc (some 17) Try.func44 #[.pointer (some ⟨g, 0, none⟩), .int .i64 64] ?_; (with_reducible refine (spec_l1Rd_pick.calls k g s0_0 t210 64 t211 t212 w0 _ ?side1 ?side2 A6.out).mono ?_); (case side1 => exact zz27 HI0); (case side2 => exact zz29 HI0); rintro e w12 ⟨rfl, hi, hb, hk⟩; refine ⟨_, rfl, ?_⟩; replace HK := Aside0.mk (KeepBut.trans zz28 hk (.inl rfl)); replace HB := Aside0.mk hb; replace HI0 := Aside0.mk hi; clear hb hk hi) | (refine gt 20 ?_; refine rl (Kd.int .i64) 3 20 ([wrap64 (167772160 + t203), wrap64 (167772160 + t205), wrap64 (167772416 + t207), wrap64 (3232235520 + t209), 0, 4294967295, 184549375, wrap64 (2886729728 + (wrap64 (t211 * 256)))] : List Int) [.int .i64 (wrap64 (167772160 + t203)), .int .i64 (wrap64 (167772160 + t205)), .int .i64 (wrap64 (167772416 + t207)), .int .i64 (wrap64 (3232235520 + t209)), .int .i64 0, .int .i64 4294967295, .int .i64 184549375, .int .i64 (wrap64 (2886729728 + (wrap64 (t211 * 256))))] ?hp ?_; (case hp => exact (ro (ro (ro (ro (ro (ro (ro (Reps.one (show Kd.M (Kd.int .i64) _ _ _ (wrap64 (2886729728 + (wrap64 (t211 * 256)))) [.int .i64 (wrap64 (2886729728 + (wrap64 (t211 * 256))))] from rfl) (Reps.none _ _)))))))))); intro v214 w13 ho14 hb hg_ hnew_; clear hg_ hnew_; (first | rw [← Ny213.out] at ho14 | (simp only [Int.reduceToNat] at ho14; rw [← Ny213.out] at ho14)); have HO215 := Aside0.mk (Kd.R_lower ho14 (keep_size (w := w) (g := g) (row := none) zz28)); replace HK := Aside0.mk (KeepBut.trans zz28 (KeepBut.of_below hb g none) (.inl rfl)); replace HB := Aside0.mk (below_step (zz29 HI0) hb); replace HI0 := Aside0.mk (IsS103.below (zz27 HI0) hb); clear hb ho14; obtain ⟨Ao15, co15, eo15⟩ := Kd.R_slice HO215.out; subst eo15) | (refine gc (some 21) Try.func45 #[.pointer (some ⟨g, 0, none⟩), .slice Ao15 y213.length co15] ?_; (with_reducible refine (spec_l1Rd_one.calls k g s0_0 t212 _ _ y213 t216 t217 w0 _ ?side1 ?side2 ?side3 ?side4 ?side5 A7.out).mono ?_); (case side1 => exact zz27 HI0); (case side2 => exact zz29 HI0); (case side3 => exact zz20 HO215); (case side4 => exact zz23 HO215); (case side5 => exact far_slice (IsS103.own_ne HI0.out HO215.out (by decide))); rintro e w16 ⟨rfl, hi, hb, hk⟩; refine ⟨_, rfl, ?_⟩; replace HO215 := Aside0.mk (Kd.R_mono (Kd.R_keep (IsS103.apart (show IsS103 w0 _ g s0_0 t212 from zz27 HI0) (zz12 HO215) (by decide)) hk (fun _ h => h.2)) (fun _ h => h.1)); replace HK := Aside0.mk (KeepBut.trans zz28 hk (.inl rfl)); replace HB := Aside0.mk hb; replace HI0 := Aside0.mk hi; clear hb hk hi))
 go_ret
 exact ⟨zz8, zz27 HI0, zz29 HI0, zz28⟩
def spec_l12AnyAddr.f (k : Nat) (s0_0 : List Int) (s0_1 : Int) : Option (Int × Int) := (spec_l1Rd_pick.f k s0_0 s0_1 16).bind fun bt218 => (if bt218.1 = 0 then ((spec_l1Rd_one.f k s0_0 bt218.2 (([(-1), 4294967296, 1099511627776] : List Int))).bind fun bt223 => (some (bt223.1, bt223.2))) else ((spec_l12Addr.f k s0_0 bt218.2).bind fun bt225 => (some (bt225.1, bt225.2))))
set_option maxHeartbeats 8000000 in
set_option maxRecDepth 100000 in
theorem spec_l12AnyAddr.calls (k : Nat) (g : Nat) (s0_0 : List Int) (s0_1 : Int) (r1 : Int) (r2 : Int) (w0 w : World) (hI : IsS103 w0 w g s0_0 s0_1) (hB : Below w0.heap.size w0 w) (h : spec_l12AnyAddr.f k s0_0 s0_1 = some (r1, r2)) :
  Calls Try.prog 43 #[.pointer (some ⟨g, 0, none⟩)] w fun e w' => e = .returned (.int .i64 r1) ∧ IsS103 w0 w' g s0_0 r2 ∧ Below w0.heap.size w0 w' ∧ KeepBut w w' g none := by
 have HI0 := Aside0.mk hI
 have HK := Aside0.mk (KeepBut.refl w g none)
 have HL := Aside0.mk hB.size
 clear hI
 have HW0 := Aside0.mk hB.size
 have HB := Aside0.mk hB
 clear hB
 have H : ((spec_l1Rd_pick.f k s0_0 s0_1 16).bind fun bt218 => (if bt218.1 = 0 then ((spec_l1Rd_one.f k s0_0 bt218.2 (([(-1), 4294967296, 1099511627776] : List Int))).bind fun bt223 => (some (bt223.1, bt223.2))) else ((spec_l12Addr.f k s0_0 bt218.2).bind fun bt225 => (some (bt225.1, bt225.2))))) = some (r1, r2) := h
 clear h
 replace H := bd H
 obtain ⟨⟨t218, t219⟩, A2, H⟩ := H
 replace H : (if t218 = 0 then ((spec_l1Rd_one.f k s0_0 t219 (([(-1), 4294967296, 1099511627776] : List Int))).bind fun bt223 => (some (bt223.1, bt223.2))) else ((spec_l12Addr.f k s0_0 t219).bind fun bt225 => (some (bt225.1, bt225.2)))) = some (r1, r2) := H
 by_cases c3 : t218 = 0
 ·rw [if_pos c3] at H
  have c3b0 : (t218 == 0) = true := beq_iff_eq.mpr c3
  have c3b1 : (t218 != 0) = false := bne_eq_false_iff_eq.mpr c3
  clear c3
  obtain ⟨y220, hy220⟩ : ∃ y_ : List Int, y_ = (([(-1), 4294967296, 1099511627776] : List Int)) := ⟨_, rfl⟩
  replace H : ((spec_l1Rd_one.f k s0_0 t219 y220).bind fun bt223 => (some (bt223.1, bt223.2))) = some (r1, r2) := by first | (rw [hy220]; with_reducible exact H) | (have H2_ := (Option.bind_some _ _).symm.trans H; rw [hy220]; with_reducible exact H2_) | (have H2_ := (Option.bind_some _ _).symm.trans H; with_reducible exact H2_) | with_reducible exact H | (rw [hy220]; exact H) | exact H
  have Ny220 := Aside0.mk hy220
  clear hy220
  replace H := bd H
  obtain ⟨⟨t223, t224⟩, A4, H⟩ := H
  replace H : (some (t223, t224)) = some (r1, r2) := H
  simp only [Option.some.injEq, Prod.mk.injEq] at H
  obtain ⟨rfl, rfl⟩ := H
  go_enter Try.func43, Try.ntmps43
  go_wp2_with (first | (refine gc (some 4) Try.func44 #[.pointer (some ⟨g, 0, none⟩), .int .i64 16] ?_; (with_reducible refine (spec_l1Rd_pick.calls k g s0_0 s0_1 16 t218 t219 w0 _ ?side1 ?side2 A2.out).mono ?_); (case side1 => exact zz27 HI0); (case side2 => exact zz29 HI0); rintro e w5 ⟨rfl, hi, hb, hk⟩; refine ⟨_, rfl, ?_⟩; replace HK := Aside0.mk (KeepBut.trans zz28 hk (.inl rfl)); replace HB := Aside0.mk hb; replace HI0 := Aside0.mk hi; clear hb hk hi) | (refine gt 7 ?_; refine rl (Kd.int .i64) 3 7 ([(-1), 4294967296, 1099511627776] : List Int) [.int .i64 (-1), .int .i64 4294967296, .int .i64 1099511627776] ?hp ?_; (case hp => exact (ro (ro (ro (Reps.none _ _))))); intro v221 w6 ho7 hb hg_ hnew_; clear hg_ hnew_; (first | rw [← Ny220.out] at ho7 | (simp only [Int.reduceToNat] at ho7; rw [← Ny220.out] at ho7)); have HO222 := Aside0.mk (Kd.R_lower ho7 (keep_size (w := w) (g := g) (row := none) zz28)); replace HK := Aside0.mk (KeepBut.trans zz28 (KeepBut.of_below hb g none) (.inl rfl)); replace HB := Aside0.mk (below_step (zz29 HI0) hb); replace HI0 := Aside0.mk (IsS103.below (zz27 HI0) hb); clear hb ho7; obtain ⟨Ao8, co8, eo8⟩ := Kd.R_slice HO222.out; subst eo8) | (refine gc (some 8) Try.func45 #[.pointer (some ⟨g, 0, none⟩), .slice Ao8 y220.length co8] ?_; (with_reducible refine (spec_l1Rd_one.calls k g s0_0 t219 _ _ y220 t223 t224 w0 _ ?side1 ?side2 ?side3 ?side4 ?side5 A4.out).mono ?_); (case side1 => exact zz27 HI0); (case side2 => exact zz29 HI0); (case side3 => exact zz20 HO222); (case side4 => exact zz23 HO222); (case side5 => exact far_slice (IsS103.own_ne HI0.out HO222.out (by decide))); rintro e w9 ⟨rfl, hi, hb, hk⟩; refine ⟨_, rfl, ?_⟩; replace HO222 := Aside0.mk (Kd.R_mono (Kd.R_keep (IsS103.apart (show IsS103 w0 _ g s0_0 t219 from zz27 HI0) (zz12 HO222) (by decide)) hk (fun _ h => h.2)) (fun _ h => h.1)); replace HK := Aside0.mk (KeepBut.trans zz28 hk (.inl rfl)); replace HB := Aside0.mk hb; replace HI0 := Aside0.mk hi; clear hb hk hi))
  go_ret
  exact ⟨zz8, zz27 HI0, zz29 HI0, zz28⟩
 ·rw [if_neg c3] at H
  have c3b0 : (t218 == 0) = false := beq_eq_false_iff_ne.mpr c3
  have c3b1 : (t218 != 0) = true := bne_iff_ne.mpr c3
  replace H := bd H
  obtain ⟨⟨t225, t226⟩, A10, H⟩ := H
  replace H : (some (t225, t226)) = some (r1, r2) := H
  simp only [Option.some.injEq, Prod.mk.injEq] at H
  obtain ⟨rfl, rfl⟩ := H
  go_enter Try.func43, Try.ntmps43
  go_wp2_with (first | (refine gc (some 4) Try.func44 #[.pointer (some ⟨g, 0, none⟩), .int .i64 16] ?_; (with_reducible refine (spec_l1Rd_pick.calls k g s0_0 s0_1 16 t218 t219 w0 _ ?side1 ?side2 A2.out).mono ?_); (case side1 => exact zz27 HI0); (case side2 => exact zz29 HI0); rintro e w11 ⟨rfl, hi, hb, hk⟩; refine ⟨_, rfl, ?_⟩; replace HK := Aside0.mk (KeepBut.trans zz28 hk (.inl rfl)); replace HB := Aside0.mk hb; replace HI0 := Aside0.mk hi; clear hb hk hi) | (refine gc (some 10) Try.func88 #[.pointer (some ⟨g, 0, none⟩)] ?_; (with_reducible refine (spec_l12Addr.calls k g s0_0 t219 t225 t226 w0 _ ?side1 ?side2 A10.out).mono ?_); (case side1 => exact zz27 HI0); (case side2 => exact zz29 HI0); rintro e w12 ⟨rfl, hi, hb, hk⟩; refine ⟨_, rfl, ?_⟩; replace HK := Aside0.mk (KeepBut.trans zz28 hk (.inl rfl)); replace HB := Aside0.mk hb; replace HI0 := Aside0.mk hi; clear hb hk hi))
  go_ret
  exact ⟨zz8, zz27 HI0, zz29 HI0, zz28⟩
def spec_l1Two.l0 : Nat → Int → Int → Option (Int)
 | 0, _, _ => none
 | k + 1, x0, x3 => if x0 > 0 then (spec_l1Two.l0 k (wrap64 (x0 - 1)) (wrap64 (x3 * 2))) else (some x3)
def spec_l1Two.f (k : Nat) (a0 : Int) : Option (Int) := spec_l1Two.l0 k a0 1
set_option maxHeartbeats 8000000 in
set_option maxRecDepth 100000 in
theorem spec_l1Two.calls (k : Nat) (a0 : Int) (r : Int) (w : World) (h : spec_l1Two.f k a0 = some r) :
  Calls Try.prog 97 #[.int .i64 a0] w fun e w' => e = .returned (.int .i64 r) ∧ Drawn0 w w' := by
 have H : (spec_l1Two.l0 k a0 1) = some r := h
 clear h
 have H' := Aside0.mk H
 clear H
 go_enter Try.func97, Try.ntmps97
 go_wp2
 go_loopg [0, 3] k (fun kq v0 v3 w' => ∃ (x0_1 : Int) (x3_1 : Int), v0 = .int .i64 x0_1 ∧ v3 = .int .i64 x3_1 ∧ Aside0 (spec_l1Two.l0 kq x0_1 x3_1 = some r) ∧ Aside0 (kq ≤ k) ∧ Drawn0 w w')
 case atStart => exact ⟨(a0), (1), zz1, zz1, H', ⟨Nat.le_refl _⟩, zz2⟩
 case round =>
  clear H'
  obtain ⟨x0_1, x3_1, rfl, rfl, HA, HK1, ⟨m1, rfl⟩⟩ := hrel
  cases gk with
  | zero => exact absurd HA.out (by simp [spec_l1Two.l0])
  | succ k1 =>
   have H := HA.out
   clear HA
   simp only [spec_l1Two.l0] at H
   replace H := ic H
   rcases H with ⟨c2b0, H⟩ | ⟨c2b0, H⟩
   ·have H' := Aside0.mk H
    clear H
    go_wp2
    go_roundg k1
    case measure => have := HK1.out; omega
    case rel => exact ⟨(wrap64 (x0_1 - 1)), (wrap64 (x3_1 * 2)), zz1, zz1, H', ⟨zz3 HK1⟩, zz2⟩
   ·obtain rfl := Option.some.inj H
    go_wp2
    go_ret
    exact ⟨zz1, zz2⟩
def spec_l1Size.f (k : Nat) (a0 : Int) : Option (Int) := (spec_l1Two.f k (wrap64 (32 - a0))).bind fun t227 => (some t227)
set_option maxHeartbeats 8000000 in
set_option maxRecDepth 100000 in
theorem spec_l1Size.calls (k : Nat) (a0 : Int) (r : Int) (w : World) (h : spec_l1Size.f k a0 = some r) :
  Calls Try.prog 73 #[.int .i64 a0] w fun e w' => e = .returned (.int .i64 r) ∧ Drawn0 w w' := by
 have H : ((spec_l1Two.f k (wrap64 (32 - a0))).bind fun t227 => (some t227)) = some r := h
 clear h
 replace H := bd H
 obtain ⟨t227, A2, H⟩ := H
 replace H : (some t227) = some r := H
 obtain rfl := Option.some.inj H
 go_enter Try.func73, Try.ntmps73
 go_wp2_with (first | (refine gc (some 5) Try.func97 #[.int .i64 (wrap64 (32 - a0))] ?_; (with_reducible refine (spec_l1Two.calls k (wrap64 (32 - a0)) t227 _ A2.out).mono ?_); rintro e w' ⟨rfl, ⟨nd, rfl⟩⟩; refine ⟨_, rfl, ?_⟩))
 go_ret
 exact ⟨zz1, zz2⟩
def spec_l1Over.f (k : Nat) (a0 : Int) (a1 : Int) : Option (Int × Int) := (spec_l1Size.f k a1).bind fun t229 => (if t229 = 0 then (none) else ((spec_l1Size.f k a1).bind fun t230 => (some (wrap64 ((wrap64 (Int.tdiv a0 t229)) * t230), a1))))
def spec_l1Over.T1 : Bool × List (List Nat × List Nat) := (true, [([], []), ([], []), ([1], [1]), ([0, 2], [0, 2]), ([], []), ([4, 2], [4]), ([3, 5], [3, 5]), ([], []), ([6, 7], [6, 7]), ([8, 5, 0, 1, 2, 3, 4, 5, 6, 7, 8], [8])])
def spec_l1Over.B1 : List Nat := [0, 0, 2, 7, 0, 22, 63, 0, 255, 511]
theorem spec_l1Over.tab1 : rtab .any (opsOf Try.f108 1) = spec_l1Over.T1 := by kernel_rfl
theorem spec_l1Over.bits1 : waitsOk spec_l1Over.T1.2 spec_l1Over.B1 = true := by kernel_rfl
set_option maxHeartbeats 8000000 in
set_option maxRecDepth 100000 in
theorem spec_l1Over.calls (k : Nat) (a0 : Int) (a1 : Int) (r1 : Int) (r2 : Int) (w : World) (h : spec_l1Over.f k a0 a1 = some (r1, r2)) :
  Calls Try.prog 108 #[.int .i64 a0, .int .i64 a1] w fun e w' => e = .returned (.agg #[.int .i64 r1, .int .i64 r2]) ∧ Below w.heap.size w w' := by
 have hu40 := Try.underlying40
 have HB := Aside0.mk (Below.refl w.heap.size w)
 have H : ((spec_l1Size.f k a1).bind fun t229 => (if t229 = 0 then (none) else ((spec_l1Size.f k a1).bind fun t230 => (some (wrap64 ((wrap64 (Int.tdiv a0 t229)) * t230), a1))))) = some (r1, r2) := h
 clear h
 replace H := bd H
 obtain ⟨t229, A3, H⟩ := H
 replace H : (if t229 = 0 then (none) else ((spec_l1Size.f k a1).bind fun t230 => (some (wrap64 ((wrap64 (Int.tdiv a0 t229)) * t230), a1)))) = some (r1, r2) := H
 replace H := gn H
 obtain ⟨c4, H⟩ := H
 have c4b0 : (t229 == 0) = false := beq_eq_false_iff_ne.mpr c4
 have c4b1 : (t229 != 0) = true := bne_iff_ne.mpr c4
 replace H := bd H
 obtain ⟨t230, A5, H⟩ := H
 replace H : (some (wrap64 ((wrap64 (Int.tdiv a0 t229)) * t230), a1)) = some (r1, r2) := H
 simp only [Option.some.injEq, Prod.mk.injEq] at H
 obtain ⟨rfl, rfl⟩ := H
 go_enter Try.func108, Try.ntmps108
 try go_wp2_with (first | (refine be 4 #[.int .i64 0, .int .i64 0] 40 ?_; intro gb228 hg w6 hbox hb; have BK228 := Aside0.mk hbox; have GW228 := Aside0.mk (zz4 : w.heap.size ≤ gb228); have GE228 := Aside0.mk (zz4 : w.heap.size ≤ gb228); replace HB := Aside0.mk (below_step zz5 hb); clear hb hbox hg))
 replace BK228 := Aside0.mk (blk_drew BK228.out)
 replace HB := Aside0.mk (below_drew1 HB.out)
 refine start_ (n := 10) (S := fun w' => True) (ds := []) (bm 10 0) (by kernel_rfl) rfl rfl trivial (fun hHeld => ?_); refine with_tabW spec_l1Over.tab1 spec_l1Over.bits1 (fun HT_ HW_ => ?_)
 generalize w6.drew = w7 at BK228 HB hHeld ⊢
 refine pu 0 5 (bm 10 1) ?_
 refine pu 1 6 (bm 10 3) ?_
 refine pu 4 9 (bm 10 19) ?_
 refine pu 7 12 (bm 10 147) ?_
 refine on 2 (some 7) (bm 10 151) (fun K hK => ?_)
 refine gs Try.func73 #[.int .i64 a1] ?_
 with_reducible refine (spec_l1Size.calls k a1 t229 _ A3.out).mono ?_
 rintro e w' ⟨rfl, ⟨nd, rfl⟩⟩
 refine ⟨_, rfl, ?_⟩
 refine hK.out _ _ trivial (fun hHeld => ?_)
 clear hK K
 refine nm 7 ?_
 refine pu 3 8 (bm 10 159) ?_
 refine on 5 (some 10) (bm 10 191) (fun K hK => ?_)
 refine gs Try.func73 #[.int .i64 a1] ?_
 with_reducible refine (spec_l1Size.calls k a1 t230 _ A5.out).mono ?_
 rintro e w' ⟨rfl, ⟨nd, rfl⟩⟩
 refine ⟨_, rfl, ?_⟩
 refine hK.out _ _ trivial (fun hHeld => ?_)
 clear hK K
 refine nm 10 ?_
 refine pu 6 11 (bm 10 255) ?_
 refine pu 8 13 (bm 10 511) ?_
 refine on 9 none (bm 10 1023) (fun K hK => ?_)
 have hs8 : w7.cell? ⟨gb228, 0, none⟩ = some (.int .i64 0) := (blk_cell BK228.out 0).trans rfl
 have hfs8 := blk_frozen BK228.out 0
 have hs9 : w7.cell? ⟨gb228, 1, none⟩ = some (.int .i64 0) := (blk_cell BK228.out 1).trans rfl
 have hfs9 := blk_frozen BK228.out 1
 refine skip_ (w1 := ?_) (by rfl) rfl ?_ ?_
 rotate_left
 ·go_simp
  rfl
 refine hK.out _ _ trivial (fun hHeld => ?_)
 clear hK K
 refine done_ (done_of HT_.out (by kernel_rfl)) ?_
 try go_wp2
 refine bodyPost_ret (results_cell_row rfl _ _ gb228 40 #[.int .i64 (wrap64 ((wrap64 (Int.tdiv a0 t229)) * t230)), .int .i64 a1] (0, 0) _ rfl (by (with_reducible repeat (first | refine blk_drewN ?_ _ | refine blk_drew ?_ | refine blk_alloc ?_ _)); refine blk_put (cs := #[.int .i64 (wrap64 ((wrap64 (Int.tdiv a0 t229)) * t230)), .int .i64 0]) ?_ 1 _ rfl; (with_reducible repeat (first | refine blk_drewN ?_ _ | refine blk_drew ?_ | refine blk_alloc ?_ _)); refine blk_put (cs := #[.int .i64 0, .int .i64 0]) ?_ 0 _ rfl; (with_reducible repeat (first | refine blk_drewN ?_ _ | refine blk_drew ?_ | refine blk_alloc ?_ _)); exact BK228.out) Try.underlying40 rfl (by kernel_rfl)) rfl ?_
 exact ⟨zz8, zz6 GE228⟩
def spec_l12Block.f (k : Nat) (s0_0 : List Int) (s0_1 : Int) : Option (Int × Int × Int) := (spec_l12Addr.f k s0_0 s0_1).bind fun bt232 => ((spec_l1Rd_one.f k s0_0 bt232.2 (([32, 31, 30, 28, 24, 24, 25, 16, 8, 1, 0, 29] : List Int))).bind fun bt237 => ((spec_l1Over.f k bt232.1 bt237.1).bind fun bt239 => (some (bt239.1, bt239.2, bt237.2))))
set_option maxHeartbeats 8000000 in
set_option maxRecDepth 100000 in
theorem spec_l12Block.calls (k : Nat) (g : Nat) (s0_0 : List Int) (s0_1 : Int) (r1 : Int) (r2 : Int) (r3 : Int) (w0 w : World) (hI : IsS103 w0 w g s0_0 s0_1) (hB : Below w0.heap.size w0 w) (h : spec_l12Block.f k s0_0 s0_1 = some (r1, r2, r3)) :
  Calls Try.prog 93 #[.pointer (some ⟨g, 0, none⟩)] w fun e w' => e = .returned (.agg #[.int .i64 r1, .int .i64 r2]) ∧ IsS103 w0 w' g s0_0 r3 ∧ Below w0.heap.size w0 w' ∧ KeepBut w w' g none := by
 have hu40 := Try.underlying40
 have HI0 := Aside0.mk hI
 have HK := Aside0.mk (KeepBut.refl w g none)
 have HL := Aside0.mk hB.size
 clear hI
 have HW0 := Aside0.mk hB.size
 have HB := Aside0.mk hB
 clear hB
 have H : ((spec_l12Addr.f k s0_0 s0_1).bind fun bt232 => ((spec_l1Rd_one.f k s0_0 bt232.2 (([32, 31, 30, 28, 24, 24, 25, 16, 8, 1, 0, 29] : List Int))).bind fun bt237 => ((spec_l1Over.f k bt232.1 bt237.1).bind fun bt239 => (some (bt239.1, bt239.2, bt237.2))))) = some (r1, r2, r3) := h
 clear h
 replace H := bd H
 obtain ⟨⟨t232, t233⟩, A2, H⟩ := H
 replace H : ((spec_l1Rd_one.f k s0_0 t233 (([32, 31, 30, 28, 24, 24, 25, 16, 8, 1, 0, 29] : List Int))).bind fun bt237 => ((spec_l1Over.f k t232 bt237.1).bind fun bt239 => (some (bt239.1, bt239.2, bt237.2)))) = some (r1, r2, r3) := H
 obtain ⟨y234, hy234⟩ : ∃ y_ : List Int, y_ = (([32, 31, 30, 28, 24, 24, 25, 16, 8, 1, 0, 29] : List Int)) := ⟨_, rfl⟩
 replace H : ((spec_l1Rd_one.f k s0_0 t233 y234).bind fun bt237 => ((spec_l1Over.f k t232 bt237.1).bind fun bt239 => (some (bt239.1, bt239.2, bt237.2)))) = some (r1, r2, r3) := by first | (rw [hy234]; with_reducible exact H) | (have H2_ := (Option.bind_some _ _).symm.trans H; rw [hy234]; with_reducible exact H2_) | (have H2_ := (Option.bind_some _ _).symm.trans H; with_reducible exact H2_) | with_reducible exact H | (rw [hy234]; exact H) | exact H
 have Ny234 := Aside0.mk hy234
 clear hy234
 replace H := bd H
 obtain ⟨⟨t237, t238⟩, A3, H⟩ := H
 replace H : ((spec_l1Over.f k t232 t237).bind fun bt239 => (some (bt239.1, bt239.2, t238))) = some (r1, r2, r3) := H
 replace H := bd H
 obtain ⟨⟨t239, t240⟩, A4, H⟩ := H
 replace H : (some (t239, t240, t238)) = some (r1, r2, r3) := H
 simp only [Option.some.injEq, Prod.mk.injEq] at H
 obtain ⟨rfl, rfl, rfl⟩ := H
 go_enter Try.func93, Try.ntmps93
 go_wp2_with (first | (refine be 2 #[.int .i64 0, .int .i64 0] 40 ?_; intro gb231 hg w5 hbox hb; replace HB := Aside0.mk (below_step (zz29 HI0) hb); have BK231 := Aside0.mk hbox; have GW231 := Aside0.mk (zz30 : w.heap.size ≤ gb231); have GE231 := Aside0.mk (Nat.le_trans HW0.out (zz30 : w.heap.size ≤ gb231) : w0.heap.size ≤ gb231); replace HK := Aside0.mk (KeepBut.trans zz28 (KeepBut.of_below hb g none) (.inl rfl)); have NB0_231 := Aside0.mk (by rw [hg]; exact Nat.ne_of_lt (IsS103.lt (show IsS103 w0 _ g s0_0 s0_1 from zz27 HI0)) : g ≠ gb231); have NB231_0 := Aside0.mk (by rw [hg]; exact Nat.ne_of_gt (IsS103.lt (show IsS103 w0 _ g s0_0 s0_1 from zz27 HI0)) : gb231 ≠ g); replace HI0 := Aside0.mk (IsS103.below (zz27 HI0) hb); clear hb hbox hg) | (refine gc (some 4) Try.func88 #[.pointer (some ⟨g, 0, none⟩)] ?_; (with_reducible refine (spec_l12Addr.calls k g s0_0 s0_1 t232 t233 w0 _ ?side1 ?side2 A2.out).mono ?_); (case side1 => exact zz31 HI0 NB0_231); (case side2 => exact zz32 HI0 GE231); rintro e w6 ⟨rfl, hi, hb, hk⟩; refine ⟨_, rfl, ?_⟩; replace BK231 := Aside0.mk (KeepBut.blk hk (g' := gb231) (o := .cells #[.int .i64 0, .int .i64 0] 40 (0, 0)) (zz7 BK231) NB231_0.out (by simp)); replace HK := Aside0.mk (KeepBut.trans (zz33 GW231) hk (.inl rfl)); replace HB := Aside0.mk hb; replace HI0 := Aside0.mk hi; clear hb hk hi) | (refine gt 6 ?_; refine rl (Kd.int .i64) 3 6 ([32, 31, 30, 28, 24, 24, 25, 16, 8, 1, 0, 29] : List Int) [.int .i64 32, .int .i64 31, .int .i64 30, .int .i64 28, .int .i64 24, .int .i64 24, .int .i64 25, .int .i64 16, .int .i64 8, .int .i64 1, .int .i64 0, .int .i64 29] ?hp ?_; (case hp => exact (ro (ro (ro (ro (ro (ro (ro (ro (ro (ro (ro (ro (Reps.none _ _)))))))))))))); intro v235 w7 ho8 hb hg_ hnew_; clear hg_ hnew_; (first | rw [← Ny234.out] at ho8 | (simp only [Int.reduceToNat] at ho8; rw [← Ny234.out] at ho8)); have HO236 := Aside0.mk (Kd.R_lower ho8 (keep_size (w := w) (g := g) (row := none) (zz33 GW231))); replace BK231 := Aside0.mk (blk_below (g := gb231) (o := .cells #[.int .i64 0, .int .i64 0] 40 (0, 0)) (zz7 BK231) hb); replace HK := Aside0.mk (KeepBut.trans (zz33 GW231) (KeepBut.of_below hb g none) (.inl rfl)); replace HB := Aside0.mk (below_step (zz32 HI0 GE231) hb); replace HI0 := Aside0.mk (IsS103.below (zz31 HI0 NB0_231) hb); clear hb ho8; obtain ⟨Ao9, co9, eo9⟩ := Kd.R_slice HO236.out; subst eo9) | (refine gc (some 7) Try.func45 #[.pointer (some ⟨g, 0, none⟩), .slice Ao9 y234.length co9] ?_; (with_reducible refine (spec_l1Rd_one.calls k g s0_0 t233 _ _ y234 t237 t238 w0 _ ?side1 ?side2 ?side3 ?side4 ?side5 A3.out).mono ?_); (case side1 => exact zz31 HI0 NB0_231); (case side2 => exact zz32 HI0 GE231); (case side3 => exact zz20 HO236); (case side4 => exact zz23 HO236); (case side5 => exact far_slice (IsS103.own_ne HI0.out HO236.out (by decide))); rintro e w10 ⟨rfl, hi, hb, hk⟩; refine ⟨_, rfl, ?_⟩; replace BK231 := Aside0.mk (KeepBut.blk hk (g' := gb231) (o := .cells #[.int .i64 0, .int .i64 0] 40 (0, 0)) (zz7 BK231) NB231_0.out (by simp)); replace HO236 := Aside0.mk (Kd.R_mono (Kd.R_keep (IsS103.apart (show IsS103 w0 _ g s0_0 t233 from zz31 HI0 NB0_231) (zz12 HO236) (by decide)) hk (fun _ h => h.2)) (fun _ h => h.1)); replace HK := Aside0.mk (KeepBut.trans (zz33 GW231) hk (.inl rfl)); replace HB := Aside0.mk hb; replace HI0 := Aside0.mk hi; clear hb hk hi) | (refine gc (some 8) Try.func108 #[.int .i64 t232, .int .i64 t237] ?_; (with_reducible refine (spec_l1Over.calls k t232 t237 t239 t240 _ A4.out).mono ?_); rintro e w11 ⟨rfl, hb⟩; refine ⟨_, rfl, ?_⟩; replace HO236 := Aside0.mk (Kd.R_below (zz12 HO236) hb); replace BK231 := Aside0.mk (blk_below (g := gb231) (o := .cells #[.int .i64 0, .int .i64 0] 40 (0, 0)) (zz7 BK231) hb); replace HK := Aside0.mk (KeepBut.trans (zz33 GW231) (KeepBut.of_below hb g none) (.inl rfl)); replace HB := Aside0.mk (below_step (zz32 HI0 GE231) hb); replace HI0 := Aside0.mk (IsS103.below (zz31 HI0 NB0_231) hb); clear hb; have hnb12 := NB231_0.out; have hnc12 := NB0_231.out; have hcz13_0 : w11.cell? ⟨gb231, 0, none⟩ = some (.int .i64 0) := (blk_cell BK231.out 0).trans rfl; have hcz13_1 : w11.cell? ⟨gb231, 1, none⟩ = some (.int .i64 0) := (blk_cell BK231.out 1).trans rfl; have hfz13_0 := blk_frozen BK231.out 0; have hfz13_1 := blk_frozen BK231.out 1))
 refine bodyPost_ret (results_cell_row rfl _ _ gb231 40 #[.int .i64 t239, .int .i64 t240] (0, 0) _ rfl (by (with_reducible repeat (first | refine blk_drewN ?_ _ | refine blk_drew ?_ | refine blk_alloc ?_ _)); refine blk_put (cs := #[.int .i64 t239, .int .i64 0]) ?_ 1 _ rfl; (with_reducible repeat (first | refine blk_drewN ?_ _ | refine blk_drew ?_ | refine blk_alloc ?_ _)); refine blk_put (cs := #[.int .i64 0, .int .i64 0]) ?_ 0 _ rfl; (with_reducible repeat (first | refine blk_drewN ?_ _ | refine blk_drew ?_ | refine blk_alloc ?_ _)); exact BK231.out) Try.underlying40 rfl (by kernel_rfl)) rfl ?_
 exact ⟨zz8, zz31 HI0 NB0_231, zz32 HI0 GE231, zz33 GW231⟩
end Go.Proofs.Ythkjkmgbdahggaa.PL
