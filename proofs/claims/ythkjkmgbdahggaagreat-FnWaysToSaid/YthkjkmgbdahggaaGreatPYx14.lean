/- A text printed by this session's wip/myprint.py over the kit's print: contracts of functions of the given program, each at what its Lean function says. -/
import Derived.Test.YthkjkmgbdahggaaGreatPYx0
namespace Go.Proofs.YthkjkmgbdahggaaGreat.PY
open Go.RowKit Go.Proofs.YthkjkmgbdahggaaGreatW.PrintWords Go.Proofs.YthkjkmgbdahggaaGreatW.PrintLast Go.Proofs.YthkjkmgbdahggaaGreatW.PrintMore Go.Proofs.YthkjkmgbdahggaaGreat.Sq
attribute [local go_sem] max2_int min2_int max_two min_two max_three min_three max_four min_four   -- for this text's walks alone
set_option linter.unusedVariables false
set_option linter.unusedSimpArgs false
def spec_l3Num.l0 : Nat → List Int → Int → Int → Option (List Int)
 | 0, _, _, _ => none
 | k + 1, x0, x1, x5 => if x5 < (x0.length : Int) then (if 0 ≤ x5 then (if (rd x0 x5) < x1 then (spec_l3Num.l0 k x0 x1 (wrap64 (x5 + 1))) else (if (rd x0 x5) = x1 then (some x0) else ((some (([] : List Int) : List Int)).bind fun y440 => (if x5 ≤ (x0.length : Int) then ((some (x0.take (x5 : Int).toNat : List Int)).bind fun y443 => (if y440.length + y443.length < 17592186044416 then ((some (y440 ++ y443 : List Int)).bind fun y447 => ((some (([x1] : List Int) : List Int)).bind fun y450 => (if y447.length + y450.length < 17592186044416 then ((some (y447 ++ y450 : List Int)).bind fun y453 => ((some (x0.drop (x5 : Int).toNat : List Int)).bind fun y456 => (if y453.length + y456.length < 17592186044416 then (some (y453 ++ y456)) else (none)))) else (none)))) else (none))) else (none))))) else (none)) else ((some (([] : List Int) : List Int)).bind fun y463 => (if 0 ≤ x5 then (if x5 ≤ (x0.length : Int) then ((some (x0.take (x5 : Int).toNat : List Int)).bind fun y466 => (if y463.length + y466.length < 17592186044416 then ((some (y463 ++ y466 : List Int)).bind fun y470 => ((some (([x1] : List Int) : List Int)).bind fun y473 => (if y470.length + y473.length < 17592186044416 then ((some (y470 ++ y473 : List Int)).bind fun y476 => ((some (x0.drop (x5 : Int).toNat : List Int)).bind fun y479 => (if y476.length + y479.length < 17592186044416 then (some (y476 ++ y479)) else (none)))) else (none)))) else (none))) else (none)) else (none)))
def spec_l3Num.f (k : Nat) (l0 : List Int) (a1 : Int) : Option (List Int) := spec_l3Num.l0 k l0 a1 0
def spec_l3Num.T6 : Bool × List (List Nat × List Nat) := (true, [([], []), ([], []), ([], []), ([1, 2], [1, 2]), ([0, 3], [0, 3]), ([], []), ([5], [5]), ([4, 6, 4], [4, 6]), ([], []), ([], []), ([8, 9], [8, 9]), ([7, 10, 7], [7, 10]), ([11, 11, 0, 1, 2, 3, 4, 5, 6, 7, 8, 9, 10, 11], [11])])
def spec_l3Num.B6 : List Nat := [0, 0, 0, 6, 15, 0, 32, 127, 0, 0, 768, 2047, 4095]
theorem spec_l3Num.tab6 : rtab .any (opsOf Tryz.f68 6) = spec_l3Num.T6 := by kernel_rfl
theorem spec_l3Num.bits6 : waitsOk spec_l3Num.T6.2 spec_l3Num.B6 = true := by kernel_rfl
set_option maxHeartbeats 8000000 in
set_option maxRecDepth 100000 in
theorem spec_l3Num.calls (k : Nat) (P0_ : Nat → Prop) (u9000_ : Value) (l0 : List Int) (a1 : Int) (r : List Int) (w0 w : World) (hB : Below w0.heap.size w0 w) (ho0 : Kd.R (Kd.int .i64) 3 w w0.heap.size P0_ u9000_ l0) (h : spec_l3Num.f k l0 a1 = some r) :
  Calls Tryz.prog 68 #[u9000_, .int .i64 a1] w fun e w' => ∃ v0_ : Value, e = .returned (v0_) ∧ Kd.R (Kd.int .i64) 3 w' w0.heap.size (fun k_ => (P0_ k_ ∨ w.heap.size ≤ k_)) v0_ r ∧ Below w0.heap.size w0 w' ∧ Kept w w' (fun k_ => P0_ k_) := by
 have HO0 := Aside0.mk (show Kd.R (Kd.int .i64) 3 w w0.heap.size (fun k_ => (P0_ k_ ∨ w.heap.size ≤ k_)) u9000_ l0 from Kd.R_mono ho0 (fun k_ hk => (.inl hk)))
 have HK := Aside0.mk (Kept.refl w (fun k_ => P0_ k_))
 have HW0 := Aside0.mk hB.size
 have HB := Aside0.mk hB
 clear hB
 have H : (spec_l3Num.l0 k l0 a1 0) = some r := h
 clear h
 have H' := Aside0.mk H
 clear H
 go_enter Tryz.func68, Tryz.ntmps68
 go_wp2
 go_loopg [5] k (fun kq v5 w' => ∃ (x5_1 : Int), v5 = .int .i64 x5_1 ∧ Aside0 (spec_l3Num.l0 kq l0 a1 x5_1 = some r) ∧ Aside0 (kq ≤ k) ∧ Aside0 (Kd.R (Kd.int .i64) 3 w' w0.heap.size (fun k_ => (P0_ k_ ∨ w.heap.size ≤ k_)) u9000_ l0) ∧ Aside0 (Kept w w' (fun k_ => P0_ k_)) ∧ Aside0 (Below w0.heap.size w0 w'))
 case atStart => exact ⟨(0), zz8, H', ⟨Nat.le_refl _⟩, ⟨zz22 HO0⟩, ⟨zz48⟩, ⟨zz3⟩⟩
 case round =>
  clear H'
  try clear p2
  obtain ⟨x5_1, rfl, HA, HK1, HO_0, HK, HB⟩ := hrel
  cases gk with
  | zero => exact absurd HA.out (by simp [spec_l3Num.l0])
  | succ k1 =>
   have H := HA.out
   clear HA
   simp only [spec_l3Num.l0] at H
   replace H := ic H
   rcases H with ⟨c3b0, H⟩ | ⟨c3b0, H⟩
   ·replace H := gd H
    obtain ⟨c4b0, H⟩ := H
    replace H := ic H
    rcases H with ⟨c5b0, H⟩ | ⟨c5b0, H⟩
    ·have H' := Aside0.mk H
     clear H
     obtain ⟨Ao6, co6, eo6⟩ := Kd.R_slice HO_0.out
     subst eo6
     have p438 : 0 ≤ (x5_1 : Int) := da
     have q438 : x5_1 < (l0.length : Int) := da
     obtain ⟨ad438, e438, hx438_0⟩ := Kd.at_int (Kd.R_reads' HO_0.out).2.2 x5_1 p438 q438
     cases e438
     replace p438 := eq_true p438
     replace q438 := eq_true q438
     go_wp2
     go_roundg k1
     case measure => have := HK1.out; omega
     case rel => exact ⟨(wrap64 (x5_1 + 1)), zz8, H', ⟨zz15 HK1⟩, ⟨zz22 HO_0⟩, ⟨zz48⟩, ⟨zz3⟩⟩
    ·by_cases c7 : (rd l0 x5_1) = a1
     ·rw [if_pos c7] at H
      have c7b0 : ((rd l0 x5_1) == a1) = true := beq_iff_eq.mpr c7
      have c7b1 : ((rd l0 x5_1) != a1) = false := bne_eq_false_iff_eq.mpr c7
      clear c7
      obtain rfl := Option.some.inj H
      obtain ⟨Ao8, co8, eo8⟩ := Kd.R_slice HO_0.out
      subst eo8
      have p438 : 0 ≤ (x5_1 : Int) := da
      have q438 : x5_1 < (l0.length : Int) := da
      obtain ⟨ad438, e438, hx438_0⟩ := Kd.at_int (Kd.R_reads' HO_0.out).2.2 x5_1 p438 q438
      cases e438
      replace p438 := eq_true p438
      replace q438 := eq_true q438
      have p439 : 0 ≤ (x5_1 : Int) := da
      have q439 : x5_1 < (l0.length : Int) := da
      obtain ⟨ad439, e439, hx439_0⟩ := Kd.at_int (Kd.R_reads' HO_0.out).2.2 x5_1 p439 q439
      obtain rfl : ad438 = ad439 := (by injection e439)
      replace p439 := eq_true p439
      replace q439 := eq_true q439
      go_wp2
      go_ret
      exact ⟨_, zz13, zz22 HO_0, zz3, zz48⟩
     ·rw [if_neg c7] at H
      have c7b0 : ((rd l0 x5_1) == a1) = false := beq_eq_false_iff_ne.mpr c7
      have c7b1 : ((rd l0 x5_1) != a1) = true := bne_iff_ne.mpr c7
      obtain ⟨y440, hy440⟩ : ∃ y_ : List Int, y_ = (([] : List Int)) := ⟨_, rfl⟩
      replace H : (if x5_1 ≤ (l0.length : Int) then ((some (l0.take (x5_1 : Int).toNat : List Int)).bind fun y443 => (if y440.length + y443.length < 17592186044416 then ((some (y440 ++ y443 : List Int)).bind fun y447 => ((some (([a1] : List Int) : List Int)).bind fun y450 => (if y447.length + y450.length < 17592186044416 then ((some (y447 ++ y450 : List Int)).bind fun y453 => ((some (l0.drop (x5_1 : Int).toNat : List Int)).bind fun y456 => (if y453.length + y456.length < 17592186044416 then (some (y453 ++ y456)) else (none)))) else (none)))) else (none))) else (none)) = some r := by first | (rw [hy440]; with_reducible exact H) | (have H2_ := (Option.bind_some _ _).symm.trans H; rw [hy440]; with_reducible exact H2_) | (have H2_ := (Option.bind_some _ _).symm.trans H; with_reducible exact H2_) | with_reducible exact H | (rw [hy440]; exact H) | exact H
      have Ny440 := Aside0.mk hy440
      clear hy440
      have c9b0 := eq_true (of_decide_eq_true zz2 : 0 ≤ x5_1)
      replace H := gp H
      obtain ⟨c10, H⟩ := H
      have c10b0 := eq_true c10
      have c10b1 : decide (x5_1 ≤ (l0.length : Int)) = true := decide_eq_true c10
      clear c10
      obtain ⟨y443, hy443⟩ : ∃ y_ : List Int, y_ = (l0.take (x5_1 : Int).toNat) := ⟨_, rfl⟩
      replace H : (if y440.length + y443.length < 17592186044416 then ((some (y440 ++ y443 : List Int)).bind fun y447 => ((some (([a1] : List Int) : List Int)).bind fun y450 => (if y447.length + y450.length < 17592186044416 then ((some (y447 ++ y450 : List Int)).bind fun y453 => ((some (l0.drop (x5_1 : Int).toNat : List Int)).bind fun y456 => (if y453.length + y456.length < 17592186044416 then (some (y453 ++ y456)) else (none)))) else (none)))) else (none)) = some r := by first | (rw [hy443]; with_reducible exact H) | (have H2_ := (Option.bind_some _ _).symm.trans H; rw [hy443]; with_reducible exact H2_) | (have H2_ := (Option.bind_some _ _).symm.trans H; with_reducible exact H2_) | with_reducible exact H | (rw [hy443]; exact H) | exact H
      have Ny443 := Aside0.mk hy443
      clear hy443
      replace H := gp H
      obtain ⟨c11, H⟩ := H
      have LMc11 := Aside0.mk c11
      clear c11
      obtain ⟨y447, hy447⟩ : ∃ y_ : List Int, y_ = (y440 ++ y443) := ⟨_, rfl⟩
      replace H : ((some (([a1] : List Int) : List Int)).bind fun y450 => (if y447.length + y450.length < 17592186044416 then ((some (y447 ++ y450 : List Int)).bind fun y453 => ((some (l0.drop (x5_1 : Int).toNat : List Int)).bind fun y456 => (if y453.length + y456.length < 17592186044416 then (some (y453 ++ y456)) else (none)))) else (none))) = some r := by first | (rw [hy447]; with_reducible exact H) | (have H2_ := (Option.bind_some _ _).symm.trans H; rw [hy447]; with_reducible exact H2_) | (have H2_ := (Option.bind_some _ _).symm.trans H; with_reducible exact H2_) | with_reducible exact H | (rw [hy447]; exact H) | exact H
      have Ny447 := Aside0.mk hy447
      clear hy447
      obtain ⟨y450, hy450⟩ : ∃ y_ : List Int, y_ = (([a1] : List Int)) := ⟨_, rfl⟩
      replace H : (if y447.length + y450.length < 17592186044416 then ((some (y447 ++ y450 : List Int)).bind fun y453 => ((some (l0.drop (x5_1 : Int).toNat : List Int)).bind fun y456 => (if y453.length + y456.length < 17592186044416 then (some (y453 ++ y456)) else (none)))) else (none)) = some r := by first | (rw [hy450]; with_reducible exact H) | (have H2_ := (Option.bind_some _ _).symm.trans H; rw [hy450]; with_reducible exact H2_) | (have H2_ := (Option.bind_some _ _).symm.trans H; with_reducible exact H2_) | with_reducible exact H | (rw [hy450]; exact H) | exact H
      have Ny450 := Aside0.mk hy450
      clear hy450
      replace H := gp H
      obtain ⟨c12, H⟩ := H
      have LMc12 := Aside0.mk c12
      clear c12
      obtain ⟨y453, hy453⟩ : ∃ y_ : List Int, y_ = (y447 ++ y450) := ⟨_, rfl⟩
      replace H : ((some (l0.drop (x5_1 : Int).toNat : List Int)).bind fun y456 => (if y453.length + y456.length < 17592186044416 then (some (y453 ++ y456)) else (none))) = some r := by first | (rw [hy453]; with_reducible exact H) | (have H2_ := (Option.bind_some _ _).symm.trans H; rw [hy453]; with_reducible exact H2_) | (have H2_ := (Option.bind_some _ _).symm.trans H; with_reducible exact H2_) | with_reducible exact H | (rw [hy453]; exact H) | exact H
      have Ny453 := Aside0.mk hy453
      clear hy453
      have c13b0 := eq_true (of_decide_eq_true zz2 : 0 ≤ x5_1)
      have c14b0 := eq_true (of_decide_eq_true zz2 : x5_1 ≤ (l0.length : Int))
      obtain ⟨y456, hy456⟩ : ∃ y_ : List Int, y_ = (l0.drop (x5_1 : Int).toNat) := ⟨_, rfl⟩
      replace H : (if y453.length + y456.length < 17592186044416 then (some (y453 ++ y456)) else (none)) = some r := by first | (rw [hy456]; with_reducible exact H) | (have H2_ := (Option.bind_some _ _).symm.trans H; rw [hy456]; with_reducible exact H2_) | (have H2_ := (Option.bind_some _ _).symm.trans H; with_reducible exact H2_) | with_reducible exact H | (rw [hy456]; exact H) | exact H
      have Ny456 := Aside0.mk hy456
      clear hy456
      replace H := gp H
      obtain ⟨c15, H⟩ := H
      have LMc15 := Aside0.mk c15
      clear c15
      obtain ⟨y460, hy460⟩ : ∃ y_ : List Int, y_ = (y453 ++ y456) := ⟨_, rfl⟩
      replace H : (some y460) = some r := by first | (rw [hy460]; with_reducible exact H) | (have H2_ := (Option.bind_some _ _).symm.trans H; rw [hy460]; with_reducible exact H2_) | (have H2_ := (Option.bind_some _ _).symm.trans H; with_reducible exact H2_) | with_reducible exact H | (rw [hy460]; exact H) | exact H
      have Ny460 := Aside0.mk hy460
      clear hy460
      obtain rfl := Option.some.inj H
      obtain ⟨Ao16, co16, eo16⟩ := Kd.R_slice HO_0.out
      subst eo16
      have p438 : 0 ≤ (x5_1 : Int) := da
      have q438 : x5_1 < (l0.length : Int) := da
      obtain ⟨ad438, e438, hx438_0⟩ := Kd.at_int (Kd.R_reads' HO_0.out).2.2 x5_1 p438 q438
      cases e438
      replace p438 := eq_true p438
      replace q438 := eq_true q438
      have p439 : 0 ≤ (x5_1 : Int) := da
      have q439 : x5_1 < (l0.length : Int) := da
      obtain ⟨ad439, e439, hx439_0⟩ := Kd.at_int (Kd.R_reads' HO_0.out).2.2 x5_1 p439 q439
      obtain rfl : ad438 = ad439 := (by injection e439)
      replace p439 := eq_true p439
      replace q439 := eq_true q439
      try go_wp2
      replace HO_0 := Aside0.mk (Kd.R_drew HO_0.out)
      replace HK := Aside0.mk (Kept.drew HK.out)
      replace HB := Aside0.mk (below_drew1 HB.out)
      have q18 : (x5_1 : Int) ≤ ((l0.length : Int) : Int) := da
      obtain ⟨i018, hi018, _, hsz18, _⟩ := info_parts info3
      have hroom18 : l0.length ≤ co16 := (Kd.R_reads' HO_0.out).2.1
      have hC18 : Kd.C (Kd.int .i64) _ (some ad438) l0.length l0 := (Kd.R_reads' HO_0.out).2.2
      have hcut18 := cut_to (P := Tryz.prog) 43 3 .i64 Tryz.underlying43 hi018 (some ad438) l0.length co16 x5_1 (of_decide_eq_true zz2) q18 hroom18
      have hr18 := Kd.C_take (m := (x5_1 : Int).toNat) hC18 (by omega)
      have hy18 : y443.length = (x5_1 : Int).toNat := (by rw [Ny443.out, List.length_take]; omega)
      rw [← Ny443.out] at hr18
      rw [← hy18] at hcut18
      have HR446 := Aside0.mk hr18
      have HC446 := Aside0.mk (show y443.length ≤ co16 from by omega)
      clear hr18 hC18 hroom18 hi018 hsz18
      have KY18 := Aside0.mk hy18
      clear hy18
      have KL18 := Aside0.mk (show (x5_1 : Int).toNat ≤ l0.length from by omega)
      replace q18 := eq_true q18
      have q19 : (x5_1 : Int) ≤ ((l0.length : Int) : Int) := da
      obtain ⟨i019, hi019, _, hsz19, _⟩ := info_parts info3
      have hroom19 : l0.length ≤ co16 := (Kd.R_reads' HO_0.out).2.1
      have hC19 : Kd.C (Kd.int .i64) _ (some ad438) l0.length l0 := (Kd.R_reads' HO_0.out).2.2
      have q019 : (0 : Int) ≤ (x5_1 : Int) := da
      have hcut19 := cut_from (P := Tryz.prog) 43 3 .i64 Tryz.underlying43 hi019 1 hsz19 (some ad438) l0.length co16 x5_1 q019 q19
      have hr19 := Kd.C_drop (m := (x5_1 : Int).toNat) (c := co16) hC19 (by omega) hroom19
      obtain ⟨A19, hA19⟩ : ∃ A1, A1 = (if co16 = (x5_1 : Int).toNat then (some ad438) else ((some ad438) : Option Addr).map (·.add ((x5_1 : Int).toNat * 1))) := ⟨_, rfl⟩
      obtain ⟨c19, hc19⟩ : ∃ c1, c1 = co16 - (x5_1 : Int).toNat := ⟨_, rfl⟩
      have hy19 : y456.length = l0.length - (x5_1 : Int).toNat := (by rw [Ny456.out, List.length_drop] <;> omega)
      rw [show (l0).drop (x5_1 : Int).toNat = y456 from Ny456.out.symm] at hr19
      replace hr19 : Kd.C (Kd.int .i64) _ A19 y456.length y456 := (by rw [hA19]; exact hr19)
      rw [← hy19, ← hA19, ← hc19] at hcut19
      have HR459 := Aside0.mk hr19
      have HC459 := Aside0.mk (show y456.length ≤ c19 from by rw [hy19, hc19]; exact Nat.sub_le_sub_right hroom19 _)
      clear hr19 hC19 hroom19 hi019 hsz19 hc19
      have KY19 := Aside0.mk hy19
      have KA19 := Aside0.mk hA19
      clear hy19 hA19
      have KL19 := Aside0.mk (show (x5_1 : Int).toNat ≤ l0.length from by omega)
      replace q19 := eq_true q19
      refine start_ (n := 13) (S := fun w' => True) (ds := []) (bm 13 0) (by kernel_rfl) rfl rfl trivial (fun hHeld => ?_); refine with_tabW spec_l3Num.tab6 spec_l3Num.bits6 (fun HT_ HW_ => ?_)
      generalize wr.drew = w17 at HO_0 HK HB HR446 HR459 hHeld ⊢
      refine pu 1 34 (bm 13 2) ?_
      refine pu 2 35 (bm 13 6) ?_
      refine pu 3 36 (bm 13 14) ?_
      refine pu 5 38 (bm 13 46) ?_
      refine pu 8 41 (bm 13 302) ?_
      refine pu 9 42 (bm 13 814) ?_
      refine pu 10 43 (bm 13 1838) ?_
      refine join_ (σ := Value × Value × Value) 3 (bm 13 1919) (fun s_ => [(33, s_.1), (37, s_.2.1), (39, s_.2.2)]) (fun s_ w' => (Kd.R (Kd.int .i64) 3 w' w0.heap.size (fun k_ => (P0_ k_ ∨ w.heap.size ≤ k_) ∧ some k_ ≠ (s_.2.2 : Value).ownBlock ∧ some k_ ≠ (.slice (some ad438) l0.length co16 : Value).ownBlock) s_.2.1 y447) ∧ (Kd.R (Kd.int .i64) 3 w' w0.heap.size (fun k_ => (P0_ k_ ∨ w.heap.size ≤ k_) ∧ some k_ ≠ (s_.2.1 : Value).ownBlock ∧ some k_ ≠ (.slice (some ad438) l0.length co16 : Value).ownBlock) s_.2.2 y450) ∧ (Kd.R (Kd.int .i64) 3 w' w0.heap.size (fun k_ => (P0_ k_ ∨ w.heap.size ≤ k_) ∧ some k_ ≠ (s_.2.1 : Value).ownBlock ∧ some k_ ≠ (s_.2.2 : Value).ownBlock) (.slice (some ad438) l0.length co16) l0) ∧ (Kept w w' (fun k_ => P0_ k_)) ∧ (Below w0.heap.size w0 w')) ?_ ?_
      rotate_left
      ·intro hCont
       refine two_ (i := 0) (j := 6) (Ni := some 33) (Nj := some 39) (bm 13 1839) (bm 13 1902) rfl rfl rfl rfl (two_of HT_.out (by kernel_rfl)) (by decide) (by decide) (fun K hK => ?_) (fun K hK => ?_)
       ·skip
        refine rls (Kd.int .i64) 3 33 ([] : List Int) [] ?hp ?_; (case hp => exact zz19)
        intro v441 w20 ho21 hb hg_ hnew_
        clear hg_ hnew_
        (first | rw [← Ny440.out] at ho21 | (simp only [Int.reduceToNat] at ho21; rw [← Ny440.out] at ho21))
        have HO442 := Aside0.mk (Kd.R_lower (Kd.R_new' (Kd.R_newM (M := fun k_ => (P0_ k_ ∨ w.heap.size ≤ k_)) ho21 (by first | exact HK.out.1 | exact (show Kept w _ (fun k_ => P0_ k_) from zz48).1) (fun k_ h_ => .inr h_)) (Kd.R_lt (zz22 HO_0))) (below_size zz3))
        replace HO_0 := Aside0.mk (Kd.R_elder' (zz22 HO_0) (Kd.R_base ho21) hb)
        replace HR446 := Aside0.mk (Kd.C_below (zz58 HR446) hb)
        replace HR459 := Aside0.mk (Kd.C_below (zz58 HR459) hb)
        replace HK := Aside0.mk (Kept.below (S := (fun k_ => P0_ k_)) zz48 hb)
        replace HB := Aside0.mk (below_step zz3 hb)
        clear hb ho21
        refine hK.out _ _ trivial (fun hHeld => ?_)
        clear hK K
        refine nm 33 ?_
        refine two_ (i := 4) (j := 6) (Ni := some 37) (Nj := some 39) (bm 13 1855) (bm 13 1903) rfl rfl rfl rfl (two_of HT_.out (by kernel_rfl)) (by decide) (by decide) (fun K hK => ?_) (fun K hK => ?_)
        ·skip
         refine Kd.R_append_rows_step (Kd.int .i64) (w0 := w0) w0.heap.size (by rfl) (.tmp 33) (.tmp 36) 43 3 (.int .i64 0) 8 rfl Tryz.underlying43 info3 rfl (by decide) (by omega) v441 y440 y443 _ _ _ (fun k_ => (P0_ k_ ∨ w.heap.size ≤ k_) ∧ some k_ ≠ (.slice (some ad438) l0.length co16 : Value).ownBlock) (fun _ => False) rfl rfl ?aO ?aR (fun _ _ h => h) (fun _ h => h.elim) ?aF ?aB ?aS ?aL ?_
         (case aR => exact zz59 HR446)
         (case aB => exact zz3)
         (case aF => exact (fun k_ hk => ⟨(.inr (Nat.le_trans (by first | exact HK.out.1 | exact (show Kept w _ (fun k_ => P0_ k_) from zz48).1) hk)), Kd.fresh' (Kd.R_lt (zz22 HO_0)) k_ hk⟩))
         (case aO => exact zz60 HO442)
         (case aS => exact zz23)
         (case aL => exact zz15 LMc11)
         intro v448 w22 ho hb hg hat
         rw [← Ny447.out] at ho
         replace HB := Aside0.mk hb
         replace HK := Aside0.mk (Kept.of_grown (S := (fun k_ => P0_ k_)) hg zz48 (fun k_ e_ => (HO442.out.1 k_ e_).1.1))
         replace HR446 := Aside0.mk (show Kd.C (Kd.int .i64) w22 (some ad438) y443.length y443 from by rw [Ny443.out]; exact Kd.C_take (m := (x5_1 : Int).toNat) ((Kd.R_reads' (Kd.R_after (ok := (fun k_ => (P0_ k_ ∨ w.heap.size ≤ k_))) (zz22 HO_0) hg hat)).2.2) KL18.out)
         replace HR459 := Aside0.mk (show Kd.C (Kd.int .i64) w22 A19 y456.length y456 from by rw [Ny456.out, KA19.out]; exact Kd.C_drop (m := (x5_1 : Int).toNat) (c := co16) ((Kd.R_reads' (Kd.R_after (ok := (fun k_ => (P0_ k_ ∨ w.heap.size ≤ k_))) (zz22 HO_0) hg hat)).2.2) KL19.out ((Kd.R_reads' (Kd.R_after (ok := (fun k_ => (P0_ k_ ∨ w.heap.size ≤ k_))) (zz22 HO_0) hg hat)).2.1))
         replace HO_0 := Aside0.mk (Kd.R_after (ok := (fun k_ => (P0_ k_ ∨ w.heap.size ≤ k_))) (zz22 HO_0) hg hat)
         have HO449 := Aside0.mk ho
         clear HO442 ho hb hg hat
         refine hK.out _ _ trivial (fun hHeld => ?_)
         clear hK K
         refine nm 37 ?_
         refine on 6 (some 39) (bm 13 1919) (fun K hK => ?_)
         refine rls (Kd.int .i64) 3 39 ([a1] : List Int) [.int .i64 a1] ?hp ?_; (case hp => exact zz45)
         intro v451 w23 ho24 hb hg_ hnew_
         clear hg_ hnew_
         (first | rw [← Ny450.out] at ho24 | (simp only [Int.reduceToNat] at ho24; rw [← Ny450.out] at ho24))
         have HO452 := Aside0.mk (Kd.R_lower (Kd.R_new' (Kd.R_new' (Kd.R_newM (M := fun k_ => (P0_ k_ ∨ w.heap.size ≤ k_)) ho24 (by first | exact HK.out.1 | exact (show Kept w _ (fun k_ => P0_ k_) from zz48).1) (fun k_ h_ => .inr h_)) (Kd.R_lt (zz22 HO_0))) (Kd.R_lt (zz22 HO449))) (below_size zz3))
         replace HO_0 := Aside0.mk (Kd.R_elder' (zz22 HO_0) (Kd.R_base ho24) hb)
         replace HO449 := Aside0.mk (Kd.R_elder' (zz22 HO449) (Kd.R_base ho24) hb)
         replace HR446 := Aside0.mk (Kd.C_below (zz58 HR446) hb)
         replace HR459 := Aside0.mk (Kd.C_below (zz58 HR459) hb)
         replace HK := Aside0.mk (Kept.below (S := (fun k_ => P0_ k_)) zz48 hb)
         replace HB := Aside0.mk (below_step zz3 hb)
         clear hb ho24
         refine hK.out _ _ trivial (fun hHeld => ?_)
         clear hK K
         refine nm 39 ?_
         exact norm_ zz28 (hCont (v441, v448, v451) _ ⟨(zz61 HO449), (zz62 HO452), (zz63 HO_0), zz48, zz3⟩)
        ·skip
         refine rls (Kd.int .i64) 3 39 ([a1] : List Int) [.int .i64 a1] ?hp ?_; (case hp => exact zz45)
         intro v451 w22 ho23 hb hg_ hnew_
         clear hg_ hnew_
         (first | rw [← Ny450.out] at ho23 | (simp only [Int.reduceToNat] at ho23; rw [← Ny450.out] at ho23))
         have HO452 := Aside0.mk (Kd.R_lower (Kd.R_new' (Kd.R_new' (Kd.R_newM (M := fun k_ => (P0_ k_ ∨ w.heap.size ≤ k_)) ho23 (by first | exact HK.out.1 | exact (show Kept w _ (fun k_ => P0_ k_) from zz48).1) (fun k_ h_ => .inr h_)) (Kd.R_lt (zz22 HO_0))) (Kd.R_lt (zz22 HO442))) (below_size zz3))
         replace HO_0 := Aside0.mk (Kd.R_elder' (zz22 HO_0) (Kd.R_base ho23) hb)
         replace HO442 := Aside0.mk (Kd.R_elder' (zz22 HO442) (Kd.R_base ho23) hb)
         replace HR446 := Aside0.mk (Kd.C_below (zz58 HR446) hb)
         replace HR459 := Aside0.mk (Kd.C_below (zz58 HR459) hb)
         replace HK := Aside0.mk (Kept.below (S := (fun k_ => P0_ k_)) zz48 hb)
         replace HB := Aside0.mk (below_step zz3 hb)
         clear hb ho23
         refine hK.out _ _ trivial (fun hHeld => ?_)
         clear hK K
         refine nm 39 ?_
         refine on 4 (some 37) (bm 13 1919) (fun K hK => ?_)
         refine Kd.R_append_rows_step (Kd.int .i64) (w0 := w0) w0.heap.size (by rfl) (.tmp 33) (.tmp 36) 43 3 (.int .i64 0) 8 rfl Tryz.underlying43 info3 rfl (by decide) (by omega) v441 y440 y443 _ _ _ (fun k_ => (P0_ k_ ∨ w.heap.size ≤ k_) ∧ some k_ ≠ (.slice (some ad438) l0.length co16 : Value).ownBlock ∧ some k_ ≠ (v451 : Value).ownBlock) (fun _ => False) rfl rfl ?aO ?aR (fun _ _ h => h) (fun _ h => h.elim) ?aF ?aB ?aS ?aL ?_
         (case aR => exact zz59 HR446)
         (case aB => exact zz3)
         (case aF => exact (fun k_ hk => ⟨(.inr (Nat.le_trans (by first | exact HK.out.1 | exact (show Kept w _ (fun k_ => P0_ k_) from zz48).1) hk)), Kd.fresh' (Kd.R_lt (zz22 HO_0)) k_ hk, Kd.fresh' (Kd.R_lt (zz22 HO452)) k_ hk⟩))
         (case aO => exact zz64 HO442)
         (case aS => exact zz23)
         (case aL => exact zz15 LMc11)
         intro v448 w24 ho hb hg hat
         rw [← Ny447.out] at ho
         replace HO452 := Aside0.mk (Kd.R_after (ok := (fun k_ => (P0_ k_ ∨ w.heap.size ≤ k_) ∧ some k_ ≠ (.slice (some ad438) l0.length co16 : Value).ownBlock)) (zz65 HO452) hg hat)
         replace HB := Aside0.mk hb
         replace HK := Aside0.mk (Kept.of_grown (S := (fun k_ => P0_ k_)) hg zz48 (fun k_ e_ => (HO442.out.1 k_ e_).1.1.1))
         replace HR446 := Aside0.mk (show Kd.C (Kd.int .i64) w24 (some ad438) y443.length y443 from by rw [Ny443.out]; exact Kd.C_take (m := (x5_1 : Int).toNat) ((Kd.R_reads' (Kd.R_after (ok := (fun k_ => (P0_ k_ ∨ w.heap.size ≤ k_) ∧ some k_ ≠ (v451 : Value).ownBlock)) (zz66 HO_0) hg hat)).2.2) KL18.out)
         replace HR459 := Aside0.mk (show Kd.C (Kd.int .i64) w24 A19 y456.length y456 from by rw [Ny456.out, KA19.out]; exact Kd.C_drop (m := (x5_1 : Int).toNat) (c := co16) ((Kd.R_reads' (Kd.R_after (ok := (fun k_ => (P0_ k_ ∨ w.heap.size ≤ k_) ∧ some k_ ≠ (v451 : Value).ownBlock)) (zz66 HO_0) hg hat)).2.2) KL19.out ((Kd.R_reads' (Kd.R_after (ok := (fun k_ => (P0_ k_ ∨ w.heap.size ≤ k_) ∧ some k_ ≠ (v451 : Value).ownBlock)) (zz66 HO_0) hg hat)).2.1))
         replace HO_0 := Aside0.mk (Kd.R_after (ok := (fun k_ => (P0_ k_ ∨ w.heap.size ≤ k_) ∧ some k_ ≠ (v451 : Value).ownBlock)) (zz66 HO_0) hg hat)
         have HO449 := Aside0.mk ho
         clear HO442 ho hb hg hat
         refine hK.out _ _ trivial (fun hHeld => ?_)
         clear hK K
         refine nm 37 ?_
         exact norm_ zz28 (hCont (v441, v448, v451) _ ⟨(zz67 HO449), (zz61 HO452), (zz61 HO_0), zz48, zz3⟩)
       ·skip
        refine rls (Kd.int .i64) 3 39 ([a1] : List Int) [.int .i64 a1] ?hp ?_; (case hp => exact zz45)
        intro v451 w20 ho21 hb hg_ hnew_
        clear hg_ hnew_
        (first | rw [← Ny450.out] at ho21 | (simp only [Int.reduceToNat] at ho21; rw [← Ny450.out] at ho21))
        have HO452 := Aside0.mk (Kd.R_lower (Kd.R_new' (Kd.R_newM (M := fun k_ => (P0_ k_ ∨ w.heap.size ≤ k_)) ho21 (by first | exact HK.out.1 | exact (show Kept w _ (fun k_ => P0_ k_) from zz48).1) (fun k_ h_ => .inr h_)) (Kd.R_lt (zz22 HO_0))) (below_size zz3))
        replace HO_0 := Aside0.mk (Kd.R_elder' (zz22 HO_0) (Kd.R_base ho21) hb)
        replace HR446 := Aside0.mk (Kd.C_below (zz58 HR446) hb)
        replace HR459 := Aside0.mk (Kd.C_below (zz58 HR459) hb)
        replace HK := Aside0.mk (Kept.below (S := (fun k_ => P0_ k_)) zz48 hb)
        replace HB := Aside0.mk (below_step zz3 hb)
        clear hb ho21
        refine hK.out _ _ trivial (fun hHeld => ?_)
        clear hK K
        refine nm 39 ?_
        refine on 0 (some 33) (bm 13 1903) (fun K hK => ?_)
        refine rls (Kd.int .i64) 3 33 ([] : List Int) [] ?hp ?_; (case hp => exact zz19)
        intro v441 w22 ho23 hb hg_ hnew_
        clear hg_ hnew_
        (first | rw [← Ny440.out] at ho23 | (simp only [Int.reduceToNat] at ho23; rw [← Ny440.out] at ho23))
        have HO442 := Aside0.mk (Kd.R_lower (Kd.R_new' (Kd.R_new' (Kd.R_newM (M := fun k_ => (P0_ k_ ∨ w.heap.size ≤ k_)) ho23 (by first | exact HK.out.1 | exact (show Kept w _ (fun k_ => P0_ k_) from zz48).1) (fun k_ h_ => .inr h_)) (Kd.R_lt (zz22 HO_0))) (Kd.R_lt (zz22 HO452))) (below_size zz3))
        replace HO_0 := Aside0.mk (Kd.R_elder' (zz22 HO_0) (Kd.R_base ho23) hb)
        replace HO452 := Aside0.mk (Kd.R_elder' (zz22 HO452) (Kd.R_base ho23) hb)
        replace HR446 := Aside0.mk (Kd.C_below (zz58 HR446) hb)
        replace HR459 := Aside0.mk (Kd.C_below (zz58 HR459) hb)
        replace HK := Aside0.mk (Kept.below (S := (fun k_ => P0_ k_)) zz48 hb)
        replace HB := Aside0.mk (below_step zz3 hb)
        clear hb ho23
        refine hK.out _ _ trivial (fun hHeld => ?_)
        clear hK K
        refine nm 33 ?_
        refine on 4 (some 37) (bm 13 1919) (fun K hK => ?_)
        refine Kd.R_append_rows_step (Kd.int .i64) (w0 := w0) w0.heap.size (by rfl) (.tmp 33) (.tmp 36) 43 3 (.int .i64 0) 8 rfl Tryz.underlying43 info3 rfl (by decide) (by omega) v441 y440 y443 _ _ _ (fun k_ => (P0_ k_ ∨ w.heap.size ≤ k_) ∧ some k_ ≠ (.slice (some ad438) l0.length co16 : Value).ownBlock ∧ some k_ ≠ (v451 : Value).ownBlock) (fun _ => False) rfl rfl ?aO ?aR (fun _ _ h => h) (fun _ h => h.elim) ?aF ?aB ?aS ?aL ?_
        (case aR => exact zz59 HR446)
        (case aB => exact zz3)
        (case aF => exact (fun k_ hk => ⟨(.inr (Nat.le_trans (by first | exact HK.out.1 | exact (show Kept w _ (fun k_ => P0_ k_) from zz48).1) hk)), Kd.fresh' (Kd.R_lt (zz22 HO_0)) k_ hk, Kd.fresh' (Kd.R_lt (zz22 HO452)) k_ hk⟩))
        (case aO => exact zz64 HO442)
        (case aS => exact zz23)
        (case aL => exact zz15 LMc11)
        intro v448 w24 ho hb hg hat
        rw [← Ny447.out] at ho
        replace HO452 := Aside0.mk (Kd.R_after (ok := (fun k_ => (P0_ k_ ∨ w.heap.size ≤ k_) ∧ some k_ ≠ (.slice (some ad438) l0.length co16 : Value).ownBlock)) (zz65 HO452) hg hat)
        replace HB := Aside0.mk hb
        replace HK := Aside0.mk (Kept.of_grown (S := (fun k_ => P0_ k_)) hg zz48 (fun k_ e_ => (HO442.out.1 k_ e_).1.1.1))
        replace HR446 := Aside0.mk (show Kd.C (Kd.int .i64) w24 (some ad438) y443.length y443 from by rw [Ny443.out]; exact Kd.C_take (m := (x5_1 : Int).toNat) ((Kd.R_reads' (Kd.R_after (ok := (fun k_ => (P0_ k_ ∨ w.heap.size ≤ k_) ∧ some k_ ≠ (v451 : Value).ownBlock)) (zz22 HO_0) hg hat)).2.2) KL18.out)
        replace HR459 := Aside0.mk (show Kd.C (Kd.int .i64) w24 A19 y456.length y456 from by rw [Ny456.out, KA19.out]; exact Kd.C_drop (m := (x5_1 : Int).toNat) (c := co16) ((Kd.R_reads' (Kd.R_after (ok := (fun k_ => (P0_ k_ ∨ w.heap.size ≤ k_) ∧ some k_ ≠ (v451 : Value).ownBlock)) (zz22 HO_0) hg hat)).2.2) KL19.out ((Kd.R_reads' (Kd.R_after (ok := (fun k_ => (P0_ k_ ∨ w.heap.size ≤ k_) ∧ some k_ ≠ (v451 : Value).ownBlock)) (zz22 HO_0) hg hat)).2.1))
        replace HO_0 := Aside0.mk (Kd.R_after (ok := (fun k_ => (P0_ k_ ∨ w.heap.size ≤ k_) ∧ some k_ ≠ (v451 : Value).ownBlock)) (zz22 HO_0) hg hat)
        have HO449 := Aside0.mk ho
        clear HO442 ho hb hg hat
        refine hK.out _ _ trivial (fun hHeld => ?_)
        clear hK K
        refine nm 37 ?_
        exact norm_ zz28 (hCont (v441, v448, v451) _ ⟨(zz67 HO449), (zz61 HO452), (zz61 HO_0), zz48, zz3⟩)
      rintro ⟨v441, v448, v451⟩ w25 ⟨h0_, h1_, h2_, h3_, h4_⟩
      have HO449 : Aside0 (Kd.R (Kd.int .i64) 3 w25 w0.heap.size (fun k_ => (P0_ k_ ∨ w.heap.size ≤ k_) ∧ some k_ ≠ (v451 : Value).ownBlock ∧ some k_ ≠ (.slice (some ad438) l0.length co16 : Value).ownBlock) v448 y447) := ⟨h0_⟩
      have HO452 : Aside0 (Kd.R (Kd.int .i64) 3 w25 w0.heap.size (fun k_ => (P0_ k_ ∨ w.heap.size ≤ k_) ∧ some k_ ≠ (v448 : Value).ownBlock ∧ some k_ ≠ (.slice (some ad438) l0.length co16 : Value).ownBlock) v451 y450) := ⟨h1_⟩
      replace HO_0 : Aside0 (Kd.R (Kd.int .i64) 3 w25 w0.heap.size (fun k_ => (P0_ k_ ∨ w.heap.size ≤ k_) ∧ some k_ ≠ (v448 : Value).ownBlock ∧ some k_ ≠ (v451 : Value).ownBlock) (.slice (some ad438) l0.length co16) l0) := ⟨h2_⟩
      replace HK : Aside0 (Kept w w25 (fun k_ => P0_ k_)) := ⟨h3_⟩
      replace HB : Aside0 (Below w0.heap.size w0 w25) := ⟨h4_⟩
      clear h0_ h1_ h2_ h3_ h4_
      have hHeld := trivial
      have HR446 := Aside0.mk (show Kd.C (Kd.int .i64) w25 (some ad438) y443.length y443 from by rw [Ny443.out]; exact Kd.C_take (m := (x5_1 : Int).toNat) ((Kd.R_reads' HO_0.out).2.2) KL18.out)
      have HR459 := Aside0.mk (show Kd.C (Kd.int .i64) w25 A19 y456.length y456 from by rw [Ny456.out, KA19.out]; exact Kd.C_drop (m := (x5_1 : Int).toNat) (c := co16) ((Kd.R_reads' HO_0.out).2.2) KL19.out ((Kd.R_reads' HO_0.out).2.1))
      obtain ⟨Ao27, co27, eo27⟩ := Kd.R_slice HO452.out
      (first | subst eo27 | (injection eo27 with f1_ f2_ f3_; have f4_ := f1_.symm; have f5_ := f3_.symm; clear f1_ f2_ f3_; subst f4_; subst f5_))
      refine norm_ (a' := ?_) ?_ ?_
      rotate_left
      ·simp only [putAll, Act.put, List.setIfInBounds_toArray, List.set_cons_zero, List.set_cons_succ]
       rfl
      refine on 7 (some 40) (bm 13 2047) (fun K hK => ?_)
      refine Kd.R_append_rows_step (Kd.int .i64) (w0 := w0) w0.heap.size (by rfl) (.tmp 37) (.tmp 39) 43 3 (.int .i64 0) 8 rfl Tryz.underlying43 info3 rfl (by decide) (by omega) v448 y447 y450 _ _ _ (fun k_ => (P0_ k_ ∨ w.heap.size ≤ k_) ∧ some k_ ≠ (.slice (some ad438) l0.length co16 : Value).ownBlock ∧ some k_ ≠ (.slice Ao27 y450.length co27 : Value).ownBlock) (fun _ => False) rfl rfl ?aO ?aR (fun _ _ h => h) (fun _ h => h.elim) ?aF ?aB ?aS ?aL ?_
      (case aR => exact zz31 HO452)
      (case aB => exact zz3)
      (case aF => exact (fun k_ hk => ⟨(.inr (Nat.le_trans (by first | exact HK.out.1 | exact (show Kept w _ (fun k_ => P0_ k_) from zz48).1) hk)), Kd.fresh' (Kd.R_lt (zz22 HO_0)) k_ hk, Kd.fresh' (Kd.R_lt (zz22 HO452)) k_ hk⟩))
      (case aO => exact zz67 HO449)
      (case aS => exact zz23)
      (case aL => exact zz15 LMc12)
      intro v454 w26 ho hb hg hat
      rw [← Ny453.out] at ho
      replace HO452 := Aside0.mk (Kd.R_after (ok := (fun k_ => (P0_ k_ ∨ w.heap.size ≤ k_) ∧ some k_ ≠ (.slice (some ad438) l0.length co16 : Value).ownBlock)) (zz68 HO452) hg hat)
      replace HB := Aside0.mk hb
      replace HK := Aside0.mk (Kept.of_grown (S := (fun k_ => P0_ k_)) hg zz48 (fun k_ e_ => (HO449.out.1 k_ e_).1))
      replace HR446 := Aside0.mk (show Kd.C (Kd.int .i64) w26 (some ad438) y443.length y443 from by rw [Ny443.out]; exact Kd.C_take (m := (x5_1 : Int).toNat) ((Kd.R_reads' (Kd.R_after (ok := (fun k_ => (P0_ k_ ∨ w.heap.size ≤ k_) ∧ some k_ ≠ (.slice Ao27 y450.length co27 : Value).ownBlock)) (zz68 HO_0) hg hat)).2.2) KL18.out)
      replace HR459 := Aside0.mk (show Kd.C (Kd.int .i64) w26 A19 y456.length y456 from by rw [Ny456.out, KA19.out]; exact Kd.C_drop (m := (x5_1 : Int).toNat) (c := co16) ((Kd.R_reads' (Kd.R_after (ok := (fun k_ => (P0_ k_ ∨ w.heap.size ≤ k_) ∧ some k_ ≠ (.slice Ao27 y450.length co27 : Value).ownBlock)) (zz68 HO_0) hg hat)).2.2) KL19.out ((Kd.R_reads' (Kd.R_after (ok := (fun k_ => (P0_ k_ ∨ w.heap.size ≤ k_) ∧ some k_ ≠ (.slice Ao27 y450.length co27 : Value).ownBlock)) (zz68 HO_0) hg hat)).2.1))
      replace HO_0 := Aside0.mk (Kd.R_after (ok := (fun k_ => (P0_ k_ ∨ w.heap.size ≤ k_) ∧ some k_ ≠ (.slice Ao27 y450.length co27 : Value).ownBlock)) (zz68 HO_0) hg hat)
      have HO455 := Aside0.mk ho
      clear HO449 ho hb hg hat
      refine hK.out _ _ trivial (fun hHeld => ?_)
      clear hK K
      refine nm 40 ?_
      refine on 11 (some 44) (bm 13 4095) (fun K hK => ?_)
      refine Kd.R_append_rows_step (Kd.int .i64) (w0 := w0) w0.heap.size (by rfl) (.tmp 40) (.tmp 43) 43 3 (.int .i64 0) 8 rfl Tryz.underlying43 info3 rfl (by decide) (by omega) v454 y453 y456 _ _ _ (fun k_ => (P0_ k_ ∨ w.heap.size ≤ k_) ∧ some k_ ≠ (.slice (some ad438) l0.length co16 : Value).ownBlock ∧ some k_ ≠ (.slice Ao27 y450.length co27 : Value).ownBlock) (fun _ => False) rfl rfl ?aO ?aR (fun _ _ h => h) (fun _ h => h.elim) ?aF ?aB ?aS ?aL ?_
      (case aR => exact zz59 HR459)
      (case aB => exact zz3)
      (case aF => exact (fun k_ hk => ⟨(.inr (Nat.le_trans (by first | exact HK.out.1 | exact (show Kept w _ (fun k_ => P0_ k_) from zz48).1) hk)), Kd.fresh' (Kd.R_lt (zz22 HO_0)) k_ hk, Kd.fresh' (Kd.R_lt (zz22 HO452)) k_ hk⟩))
      (case aO => exact zz22 HO455)
      (case aS => exact zz23)
      (case aL => exact zz15 LMc15)
      intro v461 w28 ho hb hg hat
      rw [← Ny460.out] at ho
      replace HO452 := Aside0.mk (Kd.R_after (ok := (fun k_ => (P0_ k_ ∨ w.heap.size ≤ k_) ∧ some k_ ≠ (.slice (some ad438) l0.length co16 : Value).ownBlock)) (zz22 HO452) hg hat)
      replace HB := Aside0.mk hb
      replace HK := Aside0.mk (Kept.of_grown (S := (fun k_ => P0_ k_)) hg zz48 (fun k_ e_ => (HO455.out.1 k_ e_).1))
      replace HR446 := Aside0.mk (show Kd.C (Kd.int .i64) w28 (some ad438) y443.length y443 from by rw [Ny443.out]; exact Kd.C_take (m := (x5_1 : Int).toNat) ((Kd.R_reads' (Kd.R_after (ok := (fun k_ => (P0_ k_ ∨ w.heap.size ≤ k_) ∧ some k_ ≠ (.slice Ao27 y450.length co27 : Value).ownBlock)) (zz22 HO_0) hg hat)).2.2) KL18.out)
      replace HR459 := Aside0.mk (show Kd.C (Kd.int .i64) w28 A19 y456.length y456 from by rw [Ny456.out, KA19.out]; exact Kd.C_drop (m := (x5_1 : Int).toNat) (c := co16) ((Kd.R_reads' (Kd.R_after (ok := (fun k_ => (P0_ k_ ∨ w.heap.size ≤ k_) ∧ some k_ ≠ (.slice Ao27 y450.length co27 : Value).ownBlock)) (zz22 HO_0) hg hat)).2.2) KL19.out ((Kd.R_reads' (Kd.R_after (ok := (fun k_ => (P0_ k_ ∨ w.heap.size ≤ k_) ∧ some k_ ≠ (.slice Ao27 y450.length co27 : Value).ownBlock)) (zz22 HO_0) hg hat)).2.1))
      replace HO_0 := Aside0.mk (Kd.R_after (ok := (fun k_ => (P0_ k_ ∨ w.heap.size ≤ k_) ∧ some k_ ≠ (.slice Ao27 y450.length co27 : Value).ownBlock)) (zz22 HO_0) hg hat)
      have HO462 := Aside0.mk ho
      clear HO455 ho hb hg hat
      refine hK.out _ _ trivial (fun hHeld => ?_)
      clear hK K
      refine nm 44 ?_
      refine pu 12 4 (bm 13 8191) ?_
      refine done_ (done_of HT_.out (by kernel_rfl)) ?_
      try go_wp2
      go_ret
      exact ⟨_, zz13, zz53 HO462, zz3, zz48⟩
   ·obtain ⟨y463, hy463⟩ : ∃ y_ : List Int, y_ = (([] : List Int)) := ⟨_, rfl⟩
    replace H : (if 0 ≤ x5_1 then (if x5_1 ≤ (l0.length : Int) then ((some (l0.take (x5_1 : Int).toNat : List Int)).bind fun y466 => (if y463.length + y466.length < 17592186044416 then ((some (y463 ++ y466 : List Int)).bind fun y470 => ((some (([a1] : List Int) : List Int)).bind fun y473 => (if y470.length + y473.length < 17592186044416 then ((some (y470 ++ y473 : List Int)).bind fun y476 => ((some (l0.drop (x5_1 : Int).toNat : List Int)).bind fun y479 => (if y476.length + y479.length < 17592186044416 then (some (y476 ++ y479)) else (none)))) else (none)))) else (none))) else (none)) else (none)) = some r := by first | (rw [hy463]; with_reducible exact H) | (have H2_ := (Option.bind_some _ _).symm.trans H; rw [hy463]; with_reducible exact H2_) | (have H2_ := (Option.bind_some _ _).symm.trans H; with_reducible exact H2_) | with_reducible exact H | (rw [hy463]; exact H) | exact H
    have Ny463 := Aside0.mk hy463
    clear hy463
    by_cases c29 : 0 ≤ x5_1
    ·rw [if_pos c29] at H
     have c29b0 := eq_true c29
     have c29b1 : decide (0 ≤ x5_1) = true := decide_eq_true c29
     clear c29
     replace H := gp H
     obtain ⟨c30, H⟩ := H
     have c30b0 := eq_true c30
     have c30b1 : decide (x5_1 ≤ (l0.length : Int)) = true := decide_eq_true c30
     clear c30
     obtain ⟨y466, hy466⟩ : ∃ y_ : List Int, y_ = (l0.take (x5_1 : Int).toNat) := ⟨_, rfl⟩
     replace H : (if y463.length + y466.length < 17592186044416 then ((some (y463 ++ y466 : List Int)).bind fun y470 => ((some (([a1] : List Int) : List Int)).bind fun y473 => (if y470.length + y473.length < 17592186044416 then ((some (y470 ++ y473 : List Int)).bind fun y476 => ((some (l0.drop (x5_1 : Int).toNat : List Int)).bind fun y479 => (if y476.length + y479.length < 17592186044416 then (some (y476 ++ y479)) else (none)))) else (none)))) else (none)) = some r := by first | (rw [hy466]; with_reducible exact H) | (have H2_ := (Option.bind_some _ _).symm.trans H; rw [hy466]; with_reducible exact H2_) | (have H2_ := (Option.bind_some _ _).symm.trans H; with_reducible exact H2_) | with_reducible exact H | (rw [hy466]; exact H) | exact H
     have Ny466 := Aside0.mk hy466
     clear hy466
     replace H := gp H
     obtain ⟨c31, H⟩ := H
     have LMc31 := Aside0.mk c31
     clear c31
     obtain ⟨y470, hy470⟩ : ∃ y_ : List Int, y_ = (y463 ++ y466) := ⟨_, rfl⟩
     replace H : ((some (([a1] : List Int) : List Int)).bind fun y473 => (if y470.length + y473.length < 17592186044416 then ((some (y470 ++ y473 : List Int)).bind fun y476 => ((some (l0.drop (x5_1 : Int).toNat : List Int)).bind fun y479 => (if y476.length + y479.length < 17592186044416 then (some (y476 ++ y479)) else (none)))) else (none))) = some r := by first | (rw [hy470]; with_reducible exact H) | (have H2_ := (Option.bind_some _ _).symm.trans H; rw [hy470]; with_reducible exact H2_) | (have H2_ := (Option.bind_some _ _).symm.trans H; with_reducible exact H2_) | with_reducible exact H | (rw [hy470]; exact H) | exact H
     have Ny470 := Aside0.mk hy470
     clear hy470
     obtain ⟨y473, hy473⟩ : ∃ y_ : List Int, y_ = (([a1] : List Int)) := ⟨_, rfl⟩
     replace H : (if y470.length + y473.length < 17592186044416 then ((some (y470 ++ y473 : List Int)).bind fun y476 => ((some (l0.drop (x5_1 : Int).toNat : List Int)).bind fun y479 => (if y476.length + y479.length < 17592186044416 then (some (y476 ++ y479)) else (none)))) else (none)) = some r := by first | (rw [hy473]; with_reducible exact H) | (have H2_ := (Option.bind_some _ _).symm.trans H; rw [hy473]; with_reducible exact H2_) | (have H2_ := (Option.bind_some _ _).symm.trans H; with_reducible exact H2_) | with_reducible exact H | (rw [hy473]; exact H) | exact H
     have Ny473 := Aside0.mk hy473
     clear hy473
     replace H := gp H
     obtain ⟨c32, H⟩ := H
     have LMc32 := Aside0.mk c32
     clear c32
     obtain ⟨y476, hy476⟩ : ∃ y_ : List Int, y_ = (y470 ++ y473) := ⟨_, rfl⟩
     replace H : ((some (l0.drop (x5_1 : Int).toNat : List Int)).bind fun y479 => (if y476.length + y479.length < 17592186044416 then (some (y476 ++ y479)) else (none))) = some r := by first | (rw [hy476]; with_reducible exact H) | (have H2_ := (Option.bind_some _ _).symm.trans H; rw [hy476]; with_reducible exact H2_) | (have H2_ := (Option.bind_some _ _).symm.trans H; with_reducible exact H2_) | with_reducible exact H | (rw [hy476]; exact H) | exact H
     have Ny476 := Aside0.mk hy476
     clear hy476
     have c33b0 := eq_true (of_decide_eq_true zz2 : 0 ≤ x5_1)
     have c34b0 := eq_true (of_decide_eq_true zz2 : x5_1 ≤ (l0.length : Int))
     obtain ⟨y479, hy479⟩ : ∃ y_ : List Int, y_ = (l0.drop (x5_1 : Int).toNat) := ⟨_, rfl⟩
     replace H : (if y476.length + y479.length < 17592186044416 then (some (y476 ++ y479)) else (none)) = some r := by first | (rw [hy479]; with_reducible exact H) | (have H2_ := (Option.bind_some _ _).symm.trans H; rw [hy479]; with_reducible exact H2_) | (have H2_ := (Option.bind_some _ _).symm.trans H; with_reducible exact H2_) | with_reducible exact H | (rw [hy479]; exact H) | exact H
     have Ny479 := Aside0.mk hy479
     clear hy479
     replace H := gp H
     obtain ⟨c35, H⟩ := H
     have LMc35 := Aside0.mk c35
     clear c35
     obtain ⟨y483, hy483⟩ : ∃ y_ : List Int, y_ = (y476 ++ y479) := ⟨_, rfl⟩
     replace H : (some y483) = some r := by first | (rw [hy483]; with_reducible exact H) | (have H2_ := (Option.bind_some _ _).symm.trans H; rw [hy483]; with_reducible exact H2_) | (have H2_ := (Option.bind_some _ _).symm.trans H; with_reducible exact H2_) | with_reducible exact H | (rw [hy483]; exact H) | exact H
     have Ny483 := Aside0.mk hy483
     clear hy483
     obtain rfl := Option.some.inj H
     obtain ⟨Ao36, co36, eo36⟩ := Kd.R_slice HO_0.out
     subst eo36
     try go_wp2
     replace HO_0 := Aside0.mk (Kd.R_drew HO_0.out)
     replace HK := Aside0.mk (Kept.drew HK.out)
     replace HB := Aside0.mk (below_drew1 HB.out)
     have q38 : (x5_1 : Int) ≤ ((l0.length : Int) : Int) := da
     obtain ⟨i038, hi038, _, hsz38, _⟩ := info_parts info3
     have hroom38 : l0.length ≤ co36 := (Kd.R_reads' HO_0.out).2.1
     have hC38 : Kd.C (Kd.int .i64) _ Ao36 l0.length l0 := (Kd.R_reads' HO_0.out).2.2
     have hcut38 := cut_to (P := Tryz.prog) 43 3 .i64 Tryz.underlying43 hi038 Ao36 l0.length co36 x5_1 (of_decide_eq_true zz2) q38 hroom38
     have hr38 := Kd.C_take (m := (x5_1 : Int).toNat) hC38 (by omega)
     have hy38 : y466.length = (x5_1 : Int).toNat := (by rw [Ny466.out, List.length_take]; omega)
     rw [← Ny466.out] at hr38
     rw [← hy38] at hcut38
     have HR469 := Aside0.mk hr38
     have HC469 := Aside0.mk (show y466.length ≤ co36 from by omega)
     clear hr38 hC38 hroom38 hi038 hsz38
     have KY38 := Aside0.mk hy38
     clear hy38
     have KL38 := Aside0.mk (show (x5_1 : Int).toNat ≤ l0.length from by omega)
     replace q38 := eq_true q38
     have q39 : (x5_1 : Int) ≤ ((l0.length : Int) : Int) := da
     obtain ⟨i039, hi039, _, hsz39, _⟩ := info_parts info3
     have hroom39 : l0.length ≤ co36 := (Kd.R_reads' HO_0.out).2.1
     have hC39 : Kd.C (Kd.int .i64) _ Ao36 l0.length l0 := (Kd.R_reads' HO_0.out).2.2
     have q039 : (0 : Int) ≤ (x5_1 : Int) := da
     have hcut39 := cut_from (P := Tryz.prog) 43 3 .i64 Tryz.underlying43 hi039 1 hsz39 Ao36 l0.length co36 x5_1 q039 q39
     have hr39 := Kd.C_drop (m := (x5_1 : Int).toNat) (c := co36) hC39 (by omega) hroom39
     obtain ⟨A39, hA39⟩ : ∃ A1, A1 = (if co36 = (x5_1 : Int).toNat then Ao36 else (Ao36 : Option Addr).map (·.add ((x5_1 : Int).toNat * 1))) := ⟨_, rfl⟩
     obtain ⟨c39, hc39⟩ : ∃ c1, c1 = co36 - (x5_1 : Int).toNat := ⟨_, rfl⟩
     have hy39 : y479.length = l0.length - (x5_1 : Int).toNat := (by rw [Ny479.out, List.length_drop] <;> omega)
     rw [show (l0).drop (x5_1 : Int).toNat = y479 from Ny479.out.symm] at hr39
     replace hr39 : Kd.C (Kd.int .i64) _ A39 y479.length y479 := (by rw [hA39]; exact hr39)
     rw [← hy39, ← hA39, ← hc39] at hcut39
     have HR482 := Aside0.mk hr39
     have HC482 := Aside0.mk (show y479.length ≤ c39 from by rw [hy39, hc39]; exact Nat.sub_le_sub_right hroom39 _)
     clear hr39 hC39 hroom39 hi039 hsz39 hc39
     have KY39 := Aside0.mk hy39
     have KA39 := Aside0.mk hA39
     clear hy39 hA39
     have KL39 := Aside0.mk (show (x5_1 : Int).toNat ≤ l0.length from by omega)
     replace q39 := eq_true q39
     refine start_ (n := 13) (S := fun w' => True) (ds := []) (bm 13 0) (by kernel_rfl) rfl rfl trivial (fun hHeld => ?_); refine with_tabW spec_l3Num.tab6 spec_l3Num.bits6 (fun HT_ HW_ => ?_)
     generalize wr.drew = w37 at HO_0 HK HB HR469 HR482 hHeld ⊢
     refine pu 1 34 (bm 13 2) ?_
     refine pu 2 35 (bm 13 6) ?_
     refine pu 3 36 (bm 13 14) ?_
     refine pu 5 38 (bm 13 46) ?_
     refine pu 8 41 (bm 13 302) ?_
     refine pu 9 42 (bm 13 814) ?_
     refine pu 10 43 (bm 13 1838) ?_
     refine join_ (σ := Value × Value × Value) 3 (bm 13 1919) (fun s_ => [(33, s_.1), (37, s_.2.1), (39, s_.2.2)]) (fun s_ w' => (Kd.R (Kd.int .i64) 3 w' w0.heap.size (fun k_ => (P0_ k_ ∨ w.heap.size ≤ k_) ∧ some k_ ≠ (s_.2.2 : Value).ownBlock ∧ some k_ ≠ (.slice Ao36 l0.length co36 : Value).ownBlock) s_.2.1 y470) ∧ (Kd.R (Kd.int .i64) 3 w' w0.heap.size (fun k_ => (P0_ k_ ∨ w.heap.size ≤ k_) ∧ some k_ ≠ (s_.2.1 : Value).ownBlock ∧ some k_ ≠ (.slice Ao36 l0.length co36 : Value).ownBlock) s_.2.2 y473) ∧ (Kd.R (Kd.int .i64) 3 w' w0.heap.size (fun k_ => (P0_ k_ ∨ w.heap.size ≤ k_) ∧ some k_ ≠ (s_.2.1 : Value).ownBlock ∧ some k_ ≠ (s_.2.2 : Value).ownBlock) (.slice Ao36 l0.length co36) l0) ∧ (Kept w w' (fun k_ => P0_ k_)) ∧ (Below w0.heap.size w0 w')) ?_ ?_
     rotate_left
     ·intro hCont
      refine two_ (i := 0) (j := 6) (Ni := some 33) (Nj := some 39) (bm 13 1839) (bm 13 1902) rfl rfl rfl rfl (two_of HT_.out (by kernel_rfl)) (by decide) (by decide) (fun K hK => ?_) (fun K hK => ?_)
      ·skip
       refine rls (Kd.int .i64) 3 33 ([] : List Int) [] ?hp ?_; (case hp => exact zz19)
       intro v464 w40 ho41 hb hg_ hnew_
       clear hg_ hnew_
       (first | rw [← Ny463.out] at ho41 | (simp only [Int.reduceToNat] at ho41; rw [← Ny463.out] at ho41))
       have HO465 := Aside0.mk (Kd.R_lower (Kd.R_new' (Kd.R_newM (M := fun k_ => (P0_ k_ ∨ w.heap.size ≤ k_)) ho41 (by first | exact HK.out.1 | exact (show Kept w _ (fun k_ => P0_ k_) from zz48).1) (fun k_ h_ => .inr h_)) (Kd.R_lt (zz22 HO_0))) (below_size zz3))
       replace HO_0 := Aside0.mk (Kd.R_elder' (zz22 HO_0) (Kd.R_base ho41) hb)
       replace HR469 := Aside0.mk (Kd.C_below (zz58 HR469) hb)
       replace HR482 := Aside0.mk (Kd.C_below (zz58 HR482) hb)
       replace HK := Aside0.mk (Kept.below (S := (fun k_ => P0_ k_)) zz48 hb)
       replace HB := Aside0.mk (below_step zz3 hb)
       clear hb ho41
       refine hK.out _ _ trivial (fun hHeld => ?_)
       clear hK K
       refine nm 33 ?_
       refine two_ (i := 4) (j := 6) (Ni := some 37) (Nj := some 39) (bm 13 1855) (bm 13 1903) rfl rfl rfl rfl (two_of HT_.out (by kernel_rfl)) (by decide) (by decide) (fun K hK => ?_) (fun K hK => ?_)
       ·skip
        refine Kd.R_append_rows_step (Kd.int .i64) (w0 := w0) w0.heap.size (by rfl) (.tmp 33) (.tmp 36) 43 3 (.int .i64 0) 8 rfl Tryz.underlying43 info3 rfl (by decide) (by omega) v464 y463 y466 _ _ _ (fun k_ => (P0_ k_ ∨ w.heap.size ≤ k_) ∧ some k_ ≠ (.slice Ao36 l0.length co36 : Value).ownBlock) (fun _ => False) rfl rfl ?aO ?aR (fun _ _ h => h) (fun _ h => h.elim) ?aF ?aB ?aS ?aL ?_
        (case aR => exact zz59 HR469)
        (case aB => exact zz3)
        (case aF => exact (fun k_ hk => ⟨(.inr (Nat.le_trans (by first | exact HK.out.1 | exact (show Kept w _ (fun k_ => P0_ k_) from zz48).1) hk)), Kd.fresh' (Kd.R_lt (zz22 HO_0)) k_ hk⟩))
        (case aO => exact zz60 HO465)
        (case aS => exact zz23)
        (case aL => exact zz15 LMc31)
        intro v471 w42 ho hb hg hat
        rw [← Ny470.out] at ho
        replace HB := Aside0.mk hb
        replace HK := Aside0.mk (Kept.of_grown (S := (fun k_ => P0_ k_)) hg zz48 (fun k_ e_ => (HO465.out.1 k_ e_).1.1))
        replace HR469 := Aside0.mk (show Kd.C (Kd.int .i64) w42 Ao36 y466.length y466 from by rw [Ny466.out]; exact Kd.C_take (m := (x5_1 : Int).toNat) ((Kd.R_reads' (Kd.R_after (ok := (fun k_ => (P0_ k_ ∨ w.heap.size ≤ k_))) (zz22 HO_0) hg hat)).2.2) KL38.out)
        replace HR482 := Aside0.mk (show Kd.C (Kd.int .i64) w42 A39 y479.length y479 from by rw [Ny479.out, KA39.out]; exact Kd.C_drop (m := (x5_1 : Int).toNat) (c := co36) ((Kd.R_reads' (Kd.R_after (ok := (fun k_ => (P0_ k_ ∨ w.heap.size ≤ k_))) (zz22 HO_0) hg hat)).2.2) KL39.out ((Kd.R_reads' (Kd.R_after (ok := (fun k_ => (P0_ k_ ∨ w.heap.size ≤ k_))) (zz22 HO_0) hg hat)).2.1))
        replace HO_0 := Aside0.mk (Kd.R_after (ok := (fun k_ => (P0_ k_ ∨ w.heap.size ≤ k_))) (zz22 HO_0) hg hat)
        have HO472 := Aside0.mk ho
        clear HO465 ho hb hg hat
        refine hK.out _ _ trivial (fun hHeld => ?_)
        clear hK K
        refine nm 37 ?_
        refine on 6 (some 39) (bm 13 1919) (fun K hK => ?_)
        refine rls (Kd.int .i64) 3 39 ([a1] : List Int) [.int .i64 a1] ?hp ?_; (case hp => exact zz45)
        intro v474 w43 ho44 hb hg_ hnew_
        clear hg_ hnew_
        (first | rw [← Ny473.out] at ho44 | (simp only [Int.reduceToNat] at ho44; rw [← Ny473.out] at ho44))
        have HO475 := Aside0.mk (Kd.R_lower (Kd.R_new' (Kd.R_new' (Kd.R_newM (M := fun k_ => (P0_ k_ ∨ w.heap.size ≤ k_)) ho44 (by first | exact HK.out.1 | exact (show Kept w _ (fun k_ => P0_ k_) from zz48).1) (fun k_ h_ => .inr h_)) (Kd.R_lt (zz22 HO_0))) (Kd.R_lt (zz22 HO472))) (below_size zz3))
        replace HO_0 := Aside0.mk (Kd.R_elder' (zz22 HO_0) (Kd.R_base ho44) hb)
        replace HO472 := Aside0.mk (Kd.R_elder' (zz22 HO472) (Kd.R_base ho44) hb)
        replace HR469 := Aside0.mk (Kd.C_below (zz58 HR469) hb)
        replace HR482 := Aside0.mk (Kd.C_below (zz58 HR482) hb)
        replace HK := Aside0.mk (Kept.below (S := (fun k_ => P0_ k_)) zz48 hb)
        replace HB := Aside0.mk (below_step zz3 hb)
        clear hb ho44
        refine hK.out _ _ trivial (fun hHeld => ?_)
        clear hK K
        refine nm 39 ?_
        exact norm_ zz28 (hCont (v464, v471, v474) _ ⟨(zz61 HO472), (zz62 HO475), (zz63 HO_0), zz48, zz3⟩)
       ·skip
        refine rls (Kd.int .i64) 3 39 ([a1] : List Int) [.int .i64 a1] ?hp ?_; (case hp => exact zz45)
        intro v474 w42 ho43 hb hg_ hnew_
        clear hg_ hnew_
        (first | rw [← Ny473.out] at ho43 | (simp only [Int.reduceToNat] at ho43; rw [← Ny473.out] at ho43))
        have HO475 := Aside0.mk (Kd.R_lower (Kd.R_new' (Kd.R_new' (Kd.R_newM (M := fun k_ => (P0_ k_ ∨ w.heap.size ≤ k_)) ho43 (by first | exact HK.out.1 | exact (show Kept w _ (fun k_ => P0_ k_) from zz48).1) (fun k_ h_ => .inr h_)) (Kd.R_lt (zz22 HO_0))) (Kd.R_lt (zz22 HO465))) (below_size zz3))
        replace HO_0 := Aside0.mk (Kd.R_elder' (zz22 HO_0) (Kd.R_base ho43) hb)
        replace HO465 := Aside0.mk (Kd.R_elder' (zz22 HO465) (Kd.R_base ho43) hb)
        replace HR469 := Aside0.mk (Kd.C_below (zz58 HR469) hb)
        replace HR482 := Aside0.mk (Kd.C_below (zz58 HR482) hb)
        replace HK := Aside0.mk (Kept.below (S := (fun k_ => P0_ k_)) zz48 hb)
        replace HB := Aside0.mk (below_step zz3 hb)
        clear hb ho43
        refine hK.out _ _ trivial (fun hHeld => ?_)
        clear hK K
        refine nm 39 ?_
        refine on 4 (some 37) (bm 13 1919) (fun K hK => ?_)
        refine Kd.R_append_rows_step (Kd.int .i64) (w0 := w0) w0.heap.size (by rfl) (.tmp 33) (.tmp 36) 43 3 (.int .i64 0) 8 rfl Tryz.underlying43 info3 rfl (by decide) (by omega) v464 y463 y466 _ _ _ (fun k_ => (P0_ k_ ∨ w.heap.size ≤ k_) ∧ some k_ ≠ (.slice Ao36 l0.length co36 : Value).ownBlock ∧ some k_ ≠ (v474 : Value).ownBlock) (fun _ => False) rfl rfl ?aO ?aR (fun _ _ h => h) (fun _ h => h.elim) ?aF ?aB ?aS ?aL ?_
        (case aR => exact zz59 HR469)
        (case aB => exact zz3)
        (case aF => exact (fun k_ hk => ⟨(.inr (Nat.le_trans (by first | exact HK.out.1 | exact (show Kept w _ (fun k_ => P0_ k_) from zz48).1) hk)), Kd.fresh' (Kd.R_lt (zz22 HO_0)) k_ hk, Kd.fresh' (Kd.R_lt (zz22 HO475)) k_ hk⟩))
        (case aO => exact zz64 HO465)
        (case aS => exact zz23)
        (case aL => exact zz15 LMc31)
        intro v471 w44 ho hb hg hat
        rw [← Ny470.out] at ho
        replace HO475 := Aside0.mk (Kd.R_after (ok := (fun k_ => (P0_ k_ ∨ w.heap.size ≤ k_) ∧ some k_ ≠ (.slice Ao36 l0.length co36 : Value).ownBlock)) (zz65 HO475) hg hat)
        replace HB := Aside0.mk hb
        replace HK := Aside0.mk (Kept.of_grown (S := (fun k_ => P0_ k_)) hg zz48 (fun k_ e_ => (HO465.out.1 k_ e_).1.1.1))
        replace HR469 := Aside0.mk (show Kd.C (Kd.int .i64) w44 Ao36 y466.length y466 from by rw [Ny466.out]; exact Kd.C_take (m := (x5_1 : Int).toNat) ((Kd.R_reads' (Kd.R_after (ok := (fun k_ => (P0_ k_ ∨ w.heap.size ≤ k_) ∧ some k_ ≠ (v474 : Value).ownBlock)) (zz66 HO_0) hg hat)).2.2) KL38.out)
        replace HR482 := Aside0.mk (show Kd.C (Kd.int .i64) w44 A39 y479.length y479 from by rw [Ny479.out, KA39.out]; exact Kd.C_drop (m := (x5_1 : Int).toNat) (c := co36) ((Kd.R_reads' (Kd.R_after (ok := (fun k_ => (P0_ k_ ∨ w.heap.size ≤ k_) ∧ some k_ ≠ (v474 : Value).ownBlock)) (zz66 HO_0) hg hat)).2.2) KL39.out ((Kd.R_reads' (Kd.R_after (ok := (fun k_ => (P0_ k_ ∨ w.heap.size ≤ k_) ∧ some k_ ≠ (v474 : Value).ownBlock)) (zz66 HO_0) hg hat)).2.1))
        replace HO_0 := Aside0.mk (Kd.R_after (ok := (fun k_ => (P0_ k_ ∨ w.heap.size ≤ k_) ∧ some k_ ≠ (v474 : Value).ownBlock)) (zz66 HO_0) hg hat)
        have HO472 := Aside0.mk ho
        clear HO465 ho hb hg hat
        refine hK.out _ _ trivial (fun hHeld => ?_)
        clear hK K
        refine nm 37 ?_
        exact norm_ zz28 (hCont (v464, v471, v474) _ ⟨(zz67 HO472), (zz61 HO475), (zz61 HO_0), zz48, zz3⟩)
      ·skip
       refine rls (Kd.int .i64) 3 39 ([a1] : List Int) [.int .i64 a1] ?hp ?_; (case hp => exact zz45)
       intro v474 w40 ho41 hb hg_ hnew_
       clear hg_ hnew_
       (first | rw [← Ny473.out] at ho41 | (simp only [Int.reduceToNat] at ho41; rw [← Ny473.out] at ho41))
       have HO475 := Aside0.mk (Kd.R_lower (Kd.R_new' (Kd.R_newM (M := fun k_ => (P0_ k_ ∨ w.heap.size ≤ k_)) ho41 (by first | exact HK.out.1 | exact (show Kept w _ (fun k_ => P0_ k_) from zz48).1) (fun k_ h_ => .inr h_)) (Kd.R_lt (zz22 HO_0))) (below_size zz3))
       replace HO_0 := Aside0.mk (Kd.R_elder' (zz22 HO_0) (Kd.R_base ho41) hb)
       replace HR469 := Aside0.mk (Kd.C_below (zz58 HR469) hb)
       replace HR482 := Aside0.mk (Kd.C_below (zz58 HR482) hb)
       replace HK := Aside0.mk (Kept.below (S := (fun k_ => P0_ k_)) zz48 hb)
       replace HB := Aside0.mk (below_step zz3 hb)
       clear hb ho41
       refine hK.out _ _ trivial (fun hHeld => ?_)
       clear hK K
       refine nm 39 ?_
       refine on 0 (some 33) (bm 13 1903) (fun K hK => ?_)
       refine rls (Kd.int .i64) 3 33 ([] : List Int) [] ?hp ?_; (case hp => exact zz19)
       intro v464 w42 ho43 hb hg_ hnew_
       clear hg_ hnew_
       (first | rw [← Ny463.out] at ho43 | (simp only [Int.reduceToNat] at ho43; rw [← Ny463.out] at ho43))
       have HO465 := Aside0.mk (Kd.R_lower (Kd.R_new' (Kd.R_new' (Kd.R_newM (M := fun k_ => (P0_ k_ ∨ w.heap.size ≤ k_)) ho43 (by first | exact HK.out.1 | exact (show Kept w _ (fun k_ => P0_ k_) from zz48).1) (fun k_ h_ => .inr h_)) (Kd.R_lt (zz22 HO_0))) (Kd.R_lt (zz22 HO475))) (below_size zz3))
       replace HO_0 := Aside0.mk (Kd.R_elder' (zz22 HO_0) (Kd.R_base ho43) hb)
       replace HO475 := Aside0.mk (Kd.R_elder' (zz22 HO475) (Kd.R_base ho43) hb)
       replace HR469 := Aside0.mk (Kd.C_below (zz58 HR469) hb)
       replace HR482 := Aside0.mk (Kd.C_below (zz58 HR482) hb)
       replace HK := Aside0.mk (Kept.below (S := (fun k_ => P0_ k_)) zz48 hb)
       replace HB := Aside0.mk (below_step zz3 hb)
       clear hb ho43
       refine hK.out _ _ trivial (fun hHeld => ?_)
       clear hK K
       refine nm 33 ?_
       refine on 4 (some 37) (bm 13 1919) (fun K hK => ?_)
       refine Kd.R_append_rows_step (Kd.int .i64) (w0 := w0) w0.heap.size (by rfl) (.tmp 33) (.tmp 36) 43 3 (.int .i64 0) 8 rfl Tryz.underlying43 info3 rfl (by decide) (by omega) v464 y463 y466 _ _ _ (fun k_ => (P0_ k_ ∨ w.heap.size ≤ k_) ∧ some k_ ≠ (.slice Ao36 l0.length co36 : Value).ownBlock ∧ some k_ ≠ (v474 : Value).ownBlock) (fun _ => False) rfl rfl ?aO ?aR (fun _ _ h => h) (fun _ h => h.elim) ?aF ?aB ?aS ?aL ?_
       (case aR => exact zz59 HR469)
       (case aB => exact zz3)
       (case aF => exact (fun k_ hk => ⟨(.inr (Nat.le_trans (by first | exact HK.out.1 | exact (show Kept w _ (fun k_ => P0_ k_) from zz48).1) hk)), Kd.fresh' (Kd.R_lt (zz22 HO_0)) k_ hk, Kd.fresh' (Kd.R_lt (zz22 HO475)) k_ hk⟩))
       (case aO => exact zz64 HO465)
       (case aS => exact zz23)
       (case aL => exact zz15 LMc31)
       intro v471 w44 ho hb hg hat
       rw [← Ny470.out] at ho
       replace HO475 := Aside0.mk (Kd.R_after (ok := (fun k_ => (P0_ k_ ∨ w.heap.size ≤ k_) ∧ some k_ ≠ (.slice Ao36 l0.length co36 : Value).ownBlock)) (zz65 HO475) hg hat)
       replace HB := Aside0.mk hb
       replace HK := Aside0.mk (Kept.of_grown (S := (fun k_ => P0_ k_)) hg zz48 (fun k_ e_ => (HO465.out.1 k_ e_).1.1.1))
       replace HR469 := Aside0.mk (show Kd.C (Kd.int .i64) w44 Ao36 y466.length y466 from by rw [Ny466.out]; exact Kd.C_take (m := (x5_1 : Int).toNat) ((Kd.R_reads' (Kd.R_after (ok := (fun k_ => (P0_ k_ ∨ w.heap.size ≤ k_) ∧ some k_ ≠ (v474 : Value).ownBlock)) (zz22 HO_0) hg hat)).2.2) KL38.out)
       replace HR482 := Aside0.mk (show Kd.C (Kd.int .i64) w44 A39 y479.length y479 from by rw [Ny479.out, KA39.out]; exact Kd.C_drop (m := (x5_1 : Int).toNat) (c := co36) ((Kd.R_reads' (Kd.R_after (ok := (fun k_ => (P0_ k_ ∨ w.heap.size ≤ k_) ∧ some k_ ≠ (v474 : Value).ownBlock)) (zz22 HO_0) hg hat)).2.2) KL39.out ((Kd.R_reads' (Kd.R_after (ok := (fun k_ => (P0_ k_ ∨ w.heap.size ≤ k_) ∧ some k_ ≠ (v474 : Value).ownBlock)) (zz22 HO_0) hg hat)).2.1))
       replace HO_0 := Aside0.mk (Kd.R_after (ok := (fun k_ => (P0_ k_ ∨ w.heap.size ≤ k_) ∧ some k_ ≠ (v474 : Value).ownBlock)) (zz22 HO_0) hg hat)
       have HO472 := Aside0.mk ho
       clear HO465 ho hb hg hat
       refine hK.out _ _ trivial (fun hHeld => ?_)
       clear hK K
       refine nm 37 ?_
       exact norm_ zz28 (hCont (v464, v471, v474) _ ⟨(zz67 HO472), (zz61 HO475), (zz61 HO_0), zz48, zz3⟩)
     rintro ⟨v464, v471, v474⟩ w45 ⟨h0_, h1_, h2_, h3_, h4_⟩
     have HO472 : Aside0 (Kd.R (Kd.int .i64) 3 w45 w0.heap.size (fun k_ => (P0_ k_ ∨ w.heap.size ≤ k_) ∧ some k_ ≠ (v474 : Value).ownBlock ∧ some k_ ≠ (.slice Ao36 l0.length co36 : Value).ownBlock) v471 y470) := ⟨h0_⟩
     have HO475 : Aside0 (Kd.R (Kd.int .i64) 3 w45 w0.heap.size (fun k_ => (P0_ k_ ∨ w.heap.size ≤ k_) ∧ some k_ ≠ (v471 : Value).ownBlock ∧ some k_ ≠ (.slice Ao36 l0.length co36 : Value).ownBlock) v474 y473) := ⟨h1_⟩
     replace HO_0 : Aside0 (Kd.R (Kd.int .i64) 3 w45 w0.heap.size (fun k_ => (P0_ k_ ∨ w.heap.size ≤ k_) ∧ some k_ ≠ (v471 : Value).ownBlock ∧ some k_ ≠ (v474 : Value).ownBlock) (.slice Ao36 l0.length co36) l0) := ⟨h2_⟩
     replace HK : Aside0 (Kept w w45 (fun k_ => P0_ k_)) := ⟨h3_⟩
     replace HB : Aside0 (Below w0.heap.size w0 w45) := ⟨h4_⟩
     clear h0_ h1_ h2_ h3_ h4_
     have hHeld := trivial
     have HR469 := Aside0.mk (show Kd.C (Kd.int .i64) w45 Ao36 y466.length y466 from by rw [Ny466.out]; exact Kd.C_take (m := (x5_1 : Int).toNat) ((Kd.R_reads' HO_0.out).2.2) KL38.out)
     have HR482 := Aside0.mk (show Kd.C (Kd.int .i64) w45 A39 y479.length y479 from by rw [Ny479.out, KA39.out]; exact Kd.C_drop (m := (x5_1 : Int).toNat) (c := co36) ((Kd.R_reads' HO_0.out).2.2) KL39.out ((Kd.R_reads' HO_0.out).2.1))
     obtain ⟨Ao47, co47, eo47⟩ := Kd.R_slice HO475.out
     (first | subst eo47 | (injection eo47 with f1_ f2_ f3_; have f4_ := f1_.symm; have f5_ := f3_.symm; clear f1_ f2_ f3_; subst f4_; subst f5_))
     refine norm_ (a' := ?_) ?_ ?_
     rotate_left
     ·simp only [putAll, Act.put, List.setIfInBounds_toArray, List.set_cons_zero, List.set_cons_succ]
      rfl
     refine on 7 (some 40) (bm 13 2047) (fun K hK => ?_)
     refine Kd.R_append_rows_step (Kd.int .i64) (w0 := w0) w0.heap.size (by rfl) (.tmp 37) (.tmp 39) 43 3 (.int .i64 0) 8 rfl Tryz.underlying43 info3 rfl (by decide) (by omega) v471 y470 y473 _ _ _ (fun k_ => (P0_ k_ ∨ w.heap.size ≤ k_) ∧ some k_ ≠ (.slice Ao36 l0.length co36 : Value).ownBlock ∧ some k_ ≠ (.slice Ao47 y473.length co47 : Value).ownBlock) (fun _ => False) rfl rfl ?aO ?aR (fun _ _ h => h) (fun _ h => h.elim) ?aF ?aB ?aS ?aL ?_
     (case aR => exact zz31 HO475)
     (case aB => exact zz3)
     (case aF => exact (fun k_ hk => ⟨(.inr (Nat.le_trans (by first | exact HK.out.1 | exact (show Kept w _ (fun k_ => P0_ k_) from zz48).1) hk)), Kd.fresh' (Kd.R_lt (zz22 HO_0)) k_ hk, Kd.fresh' (Kd.R_lt (zz22 HO475)) k_ hk⟩))
     (case aO => exact zz67 HO472)
     (case aS => exact zz23)
     (case aL => exact zz15 LMc32)
     intro v477 w46 ho hb hg hat
     rw [← Ny476.out] at ho
     replace HO475 := Aside0.mk (Kd.R_after (ok := (fun k_ => (P0_ k_ ∨ w.heap.size ≤ k_) ∧ some k_ ≠ (.slice Ao36 l0.length co36 : Value).ownBlock)) (zz68 HO475) hg hat)
     replace HB := Aside0.mk hb
     replace HK := Aside0.mk (Kept.of_grown (S := (fun k_ => P0_ k_)) hg zz48 (fun k_ e_ => (HO472.out.1 k_ e_).1))
     replace HR469 := Aside0.mk (show Kd.C (Kd.int .i64) w46 Ao36 y466.length y466 from by rw [Ny466.out]; exact Kd.C_take (m := (x5_1 : Int).toNat) ((Kd.R_reads' (Kd.R_after (ok := (fun k_ => (P0_ k_ ∨ w.heap.size ≤ k_) ∧ some k_ ≠ (.slice Ao47 y473.length co47 : Value).ownBlock)) (zz68 HO_0) hg hat)).2.2) KL38.out)
     replace HR482 := Aside0.mk (show Kd.C (Kd.int .i64) w46 A39 y479.length y479 from by rw [Ny479.out, KA39.out]; exact Kd.C_drop (m := (x5_1 : Int).toNat) (c := co36) ((Kd.R_reads' (Kd.R_after (ok := (fun k_ => (P0_ k_ ∨ w.heap.size ≤ k_) ∧ some k_ ≠ (.slice Ao47 y473.length co47 : Value).ownBlock)) (zz68 HO_0) hg hat)).2.2) KL39.out ((Kd.R_reads' (Kd.R_after (ok := (fun k_ => (P0_ k_ ∨ w.heap.size ≤ k_) ∧ some k_ ≠ (.slice Ao47 y473.length co47 : Value).ownBlock)) (zz68 HO_0) hg hat)).2.1))
     replace HO_0 := Aside0.mk (Kd.R_after (ok := (fun k_ => (P0_ k_ ∨ w.heap.size ≤ k_) ∧ some k_ ≠ (.slice Ao47 y473.length co47 : Value).ownBlock)) (zz68 HO_0) hg hat)
     have HO478 := Aside0.mk ho
     clear HO472 ho hb hg hat
     refine hK.out _ _ trivial (fun hHeld => ?_)
     clear hK K
     refine nm 40 ?_
     refine on 11 (some 44) (bm 13 4095) (fun K hK => ?_)
     refine Kd.R_append_rows_step (Kd.int .i64) (w0 := w0) w0.heap.size (by rfl) (.tmp 40) (.tmp 43) 43 3 (.int .i64 0) 8 rfl Tryz.underlying43 info3 rfl (by decide) (by omega) v477 y476 y479 _ _ _ (fun k_ => (P0_ k_ ∨ w.heap.size ≤ k_) ∧ some k_ ≠ (.slice Ao36 l0.length co36 : Value).ownBlock ∧ some k_ ≠ (.slice Ao47 y473.length co47 : Value).ownBlock) (fun _ => False) rfl rfl ?aO ?aR (fun _ _ h => h) (fun _ h => h.elim) ?aF ?aB ?aS ?aL ?_
     (case aR => exact zz59 HR482)
     (case aB => exact zz3)
     (case aF => exact (fun k_ hk => ⟨(.inr (Nat.le_trans (by first | exact HK.out.1 | exact (show Kept w _ (fun k_ => P0_ k_) from zz48).1) hk)), Kd.fresh' (Kd.R_lt (zz22 HO_0)) k_ hk, Kd.fresh' (Kd.R_lt (zz22 HO475)) k_ hk⟩))
     (case aO => exact zz22 HO478)
     (case aS => exact zz23)
     (case aL => exact zz15 LMc35)
     intro v484 w48 ho hb hg hat
     rw [← Ny483.out] at ho
     replace HO475 := Aside0.mk (Kd.R_after (ok := (fun k_ => (P0_ k_ ∨ w.heap.size ≤ k_) ∧ some k_ ≠ (.slice Ao36 l0.length co36 : Value).ownBlock)) (zz22 HO475) hg hat)
     replace HB := Aside0.mk hb
     replace HK := Aside0.mk (Kept.of_grown (S := (fun k_ => P0_ k_)) hg zz48 (fun k_ e_ => (HO478.out.1 k_ e_).1))
     replace HR469 := Aside0.mk (show Kd.C (Kd.int .i64) w48 Ao36 y466.length y466 from by rw [Ny466.out]; exact Kd.C_take (m := (x5_1 : Int).toNat) ((Kd.R_reads' (Kd.R_after (ok := (fun k_ => (P0_ k_ ∨ w.heap.size ≤ k_) ∧ some k_ ≠ (.slice Ao47 y473.length co47 : Value).ownBlock)) (zz22 HO_0) hg hat)).2.2) KL38.out)
     replace HR482 := Aside0.mk (show Kd.C (Kd.int .i64) w48 A39 y479.length y479 from by rw [Ny479.out, KA39.out]; exact Kd.C_drop (m := (x5_1 : Int).toNat) (c := co36) ((Kd.R_reads' (Kd.R_after (ok := (fun k_ => (P0_ k_ ∨ w.heap.size ≤ k_) ∧ some k_ ≠ (.slice Ao47 y473.length co47 : Value).ownBlock)) (zz22 HO_0) hg hat)).2.2) KL39.out ((Kd.R_reads' (Kd.R_after (ok := (fun k_ => (P0_ k_ ∨ w.heap.size ≤ k_) ∧ some k_ ≠ (.slice Ao47 y473.length co47 : Value).ownBlock)) (zz22 HO_0) hg hat)).2.1))
     replace HO_0 := Aside0.mk (Kd.R_after (ok := (fun k_ => (P0_ k_ ∨ w.heap.size ≤ k_) ∧ some k_ ≠ (.slice Ao47 y473.length co47 : Value).ownBlock)) (zz22 HO_0) hg hat)
     have HO485 := Aside0.mk ho
     clear HO478 ho hb hg hat
     refine hK.out _ _ trivial (fun hHeld => ?_)
     clear hK K
     refine nm 44 ?_
     refine pu 12 4 (bm 13 8191) ?_
     refine done_ (done_of HT_.out (by kernel_rfl)) ?_
     try go_wp2
     go_ret
     exact ⟨_, zz13, zz53 HO485, zz3, zz48⟩
    ·rw [if_neg c29] at H
     exact absurd H (by simp)
end Go.Proofs.YthkjkmgbdahggaaGreat.PY
