/- A text printed by this session's wip/myprint.py over the kit's print: contracts of functions of the given program, each at what its Lean function says. -/
import Derived.Test.YthkjkmgbdahggaaPWx0
namespace Go.Proofs.Ythkjkmgbdahggaa.PW
open Go.RowKit Go.Proofs.YthkjkmgbdahggaaW.PrintWords Go.Proofs.YthkjkmgbdahggaaW.PrintLast Go.Proofs.YthkjkmgbdahggaaW.PrintMore Go.Proofs.Ythkjkmgbdahggaa.Sq
attribute [local go_sem] max2_int min2_int max_two min_two max_three min_three max_four min_four   -- for this text's walks alone
set_option linter.unusedVariables false
set_option linter.unusedSimpArgs false

/-! ### spec_l3Num: function 113 -/
def spec_l3Num.l0 : Nat → List Int → Int → Int → Option (List Int)
 | 0, _, _, _ => none
 | k + 1, x0, x1, x5 => if x5 < (x0.length : Int) then (if 0 ≤ x5 then (if (rd x0 x5) < x1 then (spec_l3Num.l0 k x0 x1 (wrap64 (x5 + 1))) else (if (rd x0 x5) = x1 then (some x0) else ((some (([] : List Int) : List Int)).bind fun y144 => (if x5 ≤ (x0.length : Int) then ((some (x0.take (x5 : Int).toNat : List Int)).bind fun y147 => (if y144.length + y147.length < 17592186044416 then ((some (y144 ++ y147 : List Int)).bind fun y151 => ((some (([x1] : List Int) : List Int)).bind fun y154 => (if y151.length + y154.length < 17592186044416 then ((some (y151 ++ y154 : List Int)).bind fun y157 => ((some (x0.drop (x5 : Int).toNat : List Int)).bind fun y160 => (if y157.length + y160.length < 17592186044416 then (some (y157 ++ y160)) else (none)))) else (none)))) else (none))) else (none))))) else (none)) else ((some (([] : List Int) : List Int)).bind fun y167 => (if 0 ≤ x5 then (if x5 ≤ (x0.length : Int) then ((some (x0.take (x5 : Int).toNat : List Int)).bind fun y170 => (if y167.length + y170.length < 17592186044416 then ((some (y167 ++ y170 : List Int)).bind fun y174 => ((some (([x1] : List Int) : List Int)).bind fun y177 => (if y174.length + y177.length < 17592186044416 then ((some (y174 ++ y177 : List Int)).bind fun y180 => ((some (x0.drop (x5 : Int).toNat : List Int)).bind fun y183 => (if y180.length + y183.length < 17592186044416 then (some (y180 ++ y183)) else (none)))) else (none)))) else (none))) else (none)) else (none)))
def spec_l3Num.f (k : Nat) (l0 : List Int) (a1 : Int) : Option (List Int) := spec_l3Num.l0 k l0 a1 0
theorem spec_l3Num.mono_l : ∀ k, (∀ y0 y1 y2, LeO (spec_l3Num.l0 k y0 y1 y2) (spec_l3Num.l0 (k + 1) y0 y1 y2))
 | 0 => fun _ _ _ r h => by simp [spec_l3Num.l0] at h
 | k + 1 => by
  have ih0 := spec_l3Num.mono_l k
  ·intro y0 y1 y2
   unfold spec_l3Num.l0
   repeat' first
   | (with_reducible exact ih0 _ _ _)
   | (with_reducible exact LeO.refl _)
   | (with_reducible exact LeO.none _)
   | (with_reducible refine LeO.ite ?_ ?_)
   | (with_reducible refine LeO.bind ?_ (fun _ => ?_))
   | exact ih0 _ _ _
   | exact LeO.none _
   | refine LeO.ite ?_ ?_
   | refine LeO.bind ?_ (fun _ => ?_)
theorem spec_l3Num.mono : ∀ a0 a1 k, LeO (spec_l3Num.f k a0 a1) (spec_l3Num.f (k + 1) a0 a1) := by
 intro a0 a1 k
 have ih0 := spec_l3Num.mono_l k
 unfold spec_l3Num.f
 repeat' first
   | (with_reducible exact ih0 _ _ _)
   | (with_reducible exact LeO.refl _)
   | (with_reducible exact LeO.none _)
   | (with_reducible refine LeO.ite ?_ ?_)
   | (with_reducible refine LeO.bind ?_ (fun _ => ?_))
   | exact ih0 _ _ _
   | exact LeO.none _
   | refine LeO.ite ?_ ?_
   | refine LeO.bind ?_ (fun _ => ?_)
def spec_l3Num.T6 : Bool × List (List Nat × List Nat) := (true, [([], []), ([], []), ([], []), ([1, 2], [1, 2]), ([0, 3], [0, 3]), ([], []), ([5], [5]), ([4, 6, 4], [4, 6]), ([], []), ([], []), ([8, 9], [8, 9]), ([7, 10, 7], [7, 10]), ([11, 11, 0, 1, 2, 3, 4, 5, 6, 7, 8, 9, 10, 11], [11])])
def spec_l3Num.B6 : List Nat := [0, 0, 0, 6, 15, 0, 32, 127, 0, 0, 768, 2047, 4095]
theorem spec_l3Num.tab6 : rtab .any (opsOf Try.f113 6) = spec_l3Num.T6 := by kernel_rfl
theorem spec_l3Num.bits6 : waitsOk spec_l3Num.T6.2 spec_l3Num.B6 = true := by kernel_rfl
set_option maxHeartbeats 8000000 in
set_option maxRecDepth 100000 in
theorem spec_l3Num.calls (k : Nat) (P0_ : Nat → Prop) (u9000_ : Value) (l0 : List Int) (a1 : Int) (r : List Int) (w0 w : World) (hB : Below w0.heap.size w0 w) (ho0 : Kd.R (Kd.int .i64) 3 w w0.heap.size P0_ u9000_ l0) (h : spec_l3Num.f k l0 a1 = some r) :
  Calls Try.prog 113 #[u9000_, .int .i64 a1] w fun e w' => ∃ v0_ : Value, e = .returned (v0_) ∧ Kd.R (Kd.int .i64) 3 w' w0.heap.size (fun k_ => (P0_ k_ ∨ w.heap.size ≤ k_)) v0_ r ∧ Below w0.heap.size w0 w' ∧ Kept w w' (fun k_ => P0_ k_) := by
 have HO0 := Aside0.mk (show Kd.R (Kd.int .i64) 3 w w0.heap.size (fun k_ => (P0_ k_ ∨ w.heap.size ≤ k_)) u9000_ l0 from Kd.R_mono ho0 (fun k_ hk => (.inl hk)))
 have HK := Aside0.mk (Kept.refl w (fun k_ => P0_ k_))
 have HW0 := Aside0.mk hB.size
 have HB := Aside0.mk hB
 clear hB
 have H : (spec_l3Num.l0 k l0 a1 0) = some r := h
 clear h
 have H' := Aside0.mk H
 clear H
 go_enter Try.func113, Try.ntmps113
 go_wp2
 go_loopg [5] k (fun kq v5 w' => ∃ (x5_1 : Int), v5 = .int .i64 x5_1 ∧ Aside0 (spec_l3Num.l0 kq l0 a1 x5_1 = some r) ∧ Aside0 (kq ≤ k) ∧ Aside0 (Kd.R (Kd.int .i64) 3 w' w0.heap.size (fun k_ => (P0_ k_ ∨ w.heap.size ≤ k_)) u9000_ l0) ∧ Aside0 (Kept w w' (fun k_ => P0_ k_)) ∧ Aside0 (Below w0.heap.size w0 w'))
 case atStart => exact ⟨(0), zz8, H', ⟨Nat.le_refl _⟩, ⟨zz13 HO0⟩, ⟨zz18⟩, ⟨zz2⟩⟩
 case round =>
  clear H'
  try clear c1
  try clear p2
  obtain ⟨x5_1, rfl, HA, HK1, HO_0, HK, HB⟩ := hrel
  cases gk with
  | zero => exact absurd HA.out (by simp [spec_l3Num.l0])
  | succ k1 =>
   have H := HA.out
   clear HA
   simp only [spec_l3Num.l0] at H
   replace H := ic H
   rcases H with ⟨c3b0, H⟩ | ⟨c3b0, H⟩
   ·replace H := gd H
    obtain ⟨c4b0, H⟩ := H
    replace H := ic H
    rcases H with ⟨c5b0, H⟩ | ⟨c5b0, H⟩
    ·have H' := Aside0.mk H
     clear H
     obtain ⟨Ao6, co6, eo6⟩ := Kd.R_slice HO_0.out
     subst eo6
     have p142 : 0 ≤ (x5_1 : Int) := da
     have q142 : x5_1 < (l0.length : Int) := da
     obtain ⟨ad142, e142, hx142_0⟩ := Kd.at_int (Kd.R_reads' HO_0.out).2.2 x5_1 p142 q142
     cases e142
     replace p142 := eq_true p142
     replace q142 := eq_true q142
     go_wp2
     go_roundg k1
     case measure => have := HK1.out; omega
     case rel => exact ⟨(wrap64 (x5_1 + 1)), zz8, H', ⟨zz9 HK1⟩, ⟨zz13 HO_0⟩, ⟨zz18⟩, ⟨zz2⟩⟩
    ·by_cases c7 : (rd l0 x5_1) = a1
     ·rw [if_pos c7] at H
      have c7b0 : ((rd l0 x5_1) == a1) = true := beq_iff_eq.mpr c7
      have c7b1 : ((rd l0 x5_1) != a1) = false := bne_eq_false_iff_eq.mpr c7
      clear c7
      obtain rfl := Option.some.inj H
      obtain ⟨Ao8, co8, eo8⟩ := Kd.R_slice HO_0.out
      subst eo8
      have p142 : 0 ≤ (x5_1 : Int) := da
      have q142 : x5_1 < (l0.length : Int) := da
      obtain ⟨ad142, e142, hx142_0⟩ := Kd.at_int (Kd.R_reads' HO_0.out).2.2 x5_1 p142 q142
      cases e142
      replace p142 := eq_true p142
      replace q142 := eq_true q142
      have p143 : 0 ≤ (x5_1 : Int) := da
      have q143 : x5_1 < (l0.length : Int) := da
      obtain ⟨ad143, e143, hx143_0⟩ := Kd.at_int (Kd.R_reads' HO_0.out).2.2 x5_1 p143 q143
      obtain rfl : ad142 = ad143 := (by injection e143)
      replace p143 := eq_true p143
      replace q143 := eq_true q143
      go_wp2
      go_ret
      exact ⟨_, zz6, zz13 HO_0, zz2, zz18⟩
     ·rw [if_neg c7] at H
      have c7b0 : ((rd l0 x5_1) == a1) = false := beq_eq_false_iff_ne.mpr c7
      have c7b1 : ((rd l0 x5_1) != a1) = true := bne_iff_ne.mpr c7
      obtain ⟨y144, hy144⟩ : ∃ y_ : List Int, y_ = (([] : List Int)) := ⟨_, rfl⟩
      replace H : (if x5_1 ≤ (l0.length : Int) then ((some (l0.take (x5_1 : Int).toNat : List Int)).bind fun y147 => (if y144.length + y147.length < 17592186044416 then ((some (y144 ++ y147 : List Int)).bind fun y151 => ((some (([a1] : List Int) : List Int)).bind fun y154 => (if y151.length + y154.length < 17592186044416 then ((some (y151 ++ y154 : List Int)).bind fun y157 => ((some (l0.drop (x5_1 : Int).toNat : List Int)).bind fun y160 => (if y157.length + y160.length < 17592186044416 then (some (y157 ++ y160)) else (none)))) else (none)))) else (none))) else (none)) = some r := by first | (rw [hy144]; with_reducible exact H) | (have H2_ := (Option.bind_some _ _).symm.trans H; rw [hy144]; with_reducible exact H2_) | (have H2_ := (Option.bind_some _ _).symm.trans H; with_reducible exact H2_) | with_reducible exact H | (rw [hy144]; exact H) | exact H
      have Ny144 := Aside0.mk hy144
      clear hy144
      have c9b0 := eq_true (of_decide_eq_true zz19 : 0 ≤ x5_1)
      replace H := gp H
      obtain ⟨c10, H⟩ := H
      have c10b0 := eq_true c10
      have c10b1 : decide (x5_1 ≤ (l0.length : Int)) = true := decide_eq_true c10
      clear c10
      obtain ⟨y147, hy147⟩ : ∃ y_ : List Int, y_ = (l0.take (x5_1 : Int).toNat) := ⟨_, rfl⟩
      replace H : (if y144.length + y147.length < 17592186044416 then ((some (y144 ++ y147 : List Int)).bind fun y151 => ((some (([a1] : List Int) : List Int)).bind fun y154 => (if y151.length + y154.length < 17592186044416 then ((some (y151 ++ y154 : List Int)).bind fun y157 => ((some (l0.drop (x5_1 : Int).toNat : List Int)).bind fun y160 => (if y157.length + y160.length < 17592186044416 then (some (y157 ++ y160)) else (none)))) else (none)))) else (none)) = some r := by first | (rw [hy147]; with_reducible exact H) | (have H2_ := (Option.bind_some _ _).symm.trans H; rw [hy147]; with_reducible exact H2_) | (have H2_ := (Option.bind_some _ _).symm.trans H; with_reducible exact H2_) | with_reducible exact H | (rw [hy147]; exact H) | exact H
      have Ny147 := Aside0.mk hy147
      clear hy147
      replace H := gp H
      obtain ⟨c11, H⟩ := H
      have LMc11 := Aside0.mk c11
      clear c11
      obtain ⟨y151, hy151⟩ : ∃ y_ : List Int, y_ = (y144 ++ y147) := ⟨_, rfl⟩
      replace H : ((some (([a1] : List Int) : List Int)).bind fun y154 => (if y151.length + y154.length < 17592186044416 then ((some (y151 ++ y154 : List Int)).bind fun y157 => ((some (l0.drop (x5_1 : Int).toNat : List Int)).bind fun y160 => (if y157.length + y160.length < 17592186044416 then (some (y157 ++ y160)) else (none)))) else (none))) = some r := by first | (rw [hy151]; with_reducible exact H) | (have H2_ := (Option.bind_some _ _).symm.trans H; rw [hy151]; with_reducible exact H2_) | (have H2_ := (Option.bind_some _ _).symm.trans H; with_reducible exact H2_) | with_reducible exact H | (rw [hy151]; exact H) | exact H
      have Ny151 := Aside0.mk hy151
      clear hy151
      obtain ⟨y154, hy154⟩ : ∃ y_ : List Int, y_ = (([a1] : List Int)) := ⟨_, rfl⟩
      replace H : (if y151.length + y154.length < 17592186044416 then ((some (y151 ++ y154 : List Int)).bind fun y157 => ((some (l0.drop (x5_1 : Int).toNat : List Int)).bind fun y160 => (if y157.length + y160.length < 17592186044416 then (some (y157 ++ y160)) else (none)))) else (none)) = some r := by first | (rw [hy154]; with_reducible exact H) | (have H2_ := (Option.bind_some _ _).symm.trans H; rw [hy154]; with_reducible exact H2_) | (have H2_ := (Option.bind_some _ _).symm.trans H; with_reducible exact H2_) | with_reducible exact H | (rw [hy154]; exact H) | exact H
      have Ny154 := Aside0.mk hy154
      clear hy154
      replace H := gp H
      obtain ⟨c12, H⟩ := H
      have LMc12 := Aside0.mk c12
      clear c12
      obtain ⟨y157, hy157⟩ : ∃ y_ : List Int, y_ = (y151 ++ y154) := ⟨_, rfl⟩
      replace H : ((some (l0.drop (x5_1 : Int).toNat : List Int)).bind fun y160 => (if y157.length + y160.length < 17592186044416 then (some (y157 ++ y160)) else (none))) = some r := by first | (rw [hy157]; with_reducible exact H) | (have H2_ := (Option.bind_some _ _).symm.trans H; rw [hy157]; with_reducible exact H2_) | (have H2_ := (Option.bind_some _ _).symm.trans H; with_reducible exact H2_) | with_reducible exact H | (rw [hy157]; exact H) | exact H
      have Ny157 := Aside0.mk hy157
      clear hy157
      have c13b0 := eq_true (of_decide_eq_true zz19 : 0 ≤ x5_1)
      have c14b0 := eq_true (of_decide_eq_true zz19 : x5_1 ≤ (l0.length : Int))
      obtain ⟨y160, hy160⟩ : ∃ y_ : List Int, y_ = (l0.drop (x5_1 : Int).toNat) := ⟨_, rfl⟩
      replace H : (if y157.length + y160.length < 17592186044416 then (some (y157 ++ y160)) else (none)) = some r := by first | (rw [hy160]; with_reducible exact H) | (have H2_ := (Option.bind_some _ _).symm.trans H; rw [hy160]; with_reducible exact H2_) | (have H2_ := (Option.bind_some _ _).symm.trans H; with_reducible exact H2_) | with_reducible exact H | (rw [hy160]; exact H) | exact H
      have Ny160 := Aside0.mk hy160
      clear hy160
      replace H := gp H
      obtain ⟨c15, H⟩ := H
      have LMc15 := Aside0.mk c15
      clear c15
      obtain ⟨y164, hy164⟩ : ∃ y_ : List Int, y_ = (y157 ++ y160) := ⟨_, rfl⟩
      replace H : (some y164) = some r := by first | (rw [hy164]; with_reducible exact H) | (have H2_ := (Option.bind_some _ _).symm.trans H; rw [hy164]; with_reducible exact H2_) | (have H2_ := (Option.bind_some _ _).symm.trans H; with_reducible exact H2_) | with_reducible exact H | (rw [hy164]; exact H) | exact H
      have Ny164 := Aside0.mk hy164
      clear hy164
      obtain rfl := Option.some.inj H
      obtain ⟨Ao16, co16, eo16⟩ := Kd.R_slice HO_0.out
      subst eo16
      have p142 : 0 ≤ (x5_1 : Int) := da
      have q142 : x5_1 < (l0.length : Int) := da
      obtain ⟨ad142, e142, hx142_0⟩ := Kd.at_int (Kd.R_reads' HO_0.out).2.2 x5_1 p142 q142
      cases e142
      replace p142 := eq_true p142
      replace q142 := eq_true q142
      have p143 : 0 ≤ (x5_1 : Int) := da
      have q143 : x5_1 < (l0.length : Int) := da
      obtain ⟨ad143, e143, hx143_0⟩ := Kd.at_int (Kd.R_reads' HO_0.out).2.2 x5_1 p143 q143
      obtain rfl : ad142 = ad143 := (by injection e143)
      replace p143 := eq_true p143
      replace q143 := eq_true q143
      try go_wp2
      replace HO_0 := Aside0.mk (Kd.R_drew HO_0.out)
      replace HK := Aside0.mk (Kept.drew HK.out)
      replace HB := Aside0.mk (below_drew1 HB.out)
      have q18 : (x5_1 : Int) ≤ ((l0.length : Int) : Int) := da
      obtain ⟨i018, hi018, _, hsz18, _⟩ := info_parts info3
      have hroom18 : l0.length ≤ co16 := (Kd.R_reads' HO_0.out).2.1
      have hC18 : Kd.C (Kd.int .i64) _ (some ad142) l0.length l0 := (Kd.R_reads' HO_0.out).2.2
      have hcut18 := cut_to (P := Try.prog) 65 3 .i64 Try.underlying65 hi018 (some ad142) l0.length co16 x5_1 (of_decide_eq_true zz19) q18 hroom18
      have hr18 := Kd.C_take (m := (x5_1 : Int).toNat) hC18 (by omega)
      have hy18 : y147.length = (x5_1 : Int).toNat := (by rw [Ny147.out, List.length_take]; omega)
      rw [← Ny147.out] at hr18
      rw [← hy18] at hcut18
      have HR150 := Aside0.mk hr18
      have HC150 := Aside0.mk (show y147.length ≤ co16 from by omega)
      clear hr18 hC18 hroom18 hi018 hsz18
      have KY18 := Aside0.mk hy18
      clear hy18
      have KL18 := Aside0.mk (show (x5_1 : Int).toNat ≤ l0.length from by omega)
      replace q18 := eq_true q18
      have q19 : (x5_1 : Int) ≤ ((l0.length : Int) : Int) := da
      obtain ⟨i019, hi019, _, hsz19, _⟩ := info_parts info3
      have hroom19 : l0.length ≤ co16 := (Kd.R_reads' HO_0.out).2.1
      have hC19 : Kd.C (Kd.int .i64) _ (some ad142) l0.length l0 := (Kd.R_reads' HO_0.out).2.2
      have q019 : (0 : Int) ≤ (x5_1 : Int) := da
      have hcut19 := cut_from (P := Try.prog) 65 3 .i64 Try.underlying65 hi019 1 hsz19 (some ad142) l0.length co16 x5_1 q019 q19
      have hr19 := Kd.C_drop (m := (x5_1 : Int).toNat) (c := co16) hC19 (by omega) hroom19
      obtain ⟨A19, hA19⟩ : ∃ A1, A1 = (if co16 = (x5_1 : Int).toNat then (some ad142) else ((some ad142) : Option Addr).map (·.add ((x5_1 : Int).toNat * 1))) := ⟨_, rfl⟩
      obtain ⟨c19, hc19⟩ : ∃ c1, c1 = co16 - (x5_1 : Int).toNat := ⟨_, rfl⟩
      have hy19 : y160.length = l0.length - (x5_1 : Int).toNat := (by rw [Ny160.out, List.length_drop] <;> omega)
      rw [show (l0).drop (x5_1 : Int).toNat = y160 from Ny160.out.symm] at hr19
      replace hr19 : Kd.C (Kd.int .i64) _ A19 y160.length y160 := (by rw [hA19]; exact hr19)
      rw [← hy19, ← hA19, ← hc19] at hcut19
      have HR163 := Aside0.mk hr19
      have HC163 := Aside0.mk (show y160.length ≤ c19 from by rw [hy19, hc19]; exact Nat.sub_le_sub_right hroom19 _)
      clear hr19 hC19 hroom19 hi019 hsz19 hc19
      have KY19 := Aside0.mk hy19
      have KA19 := Aside0.mk hA19
      clear hy19 hA19
      have KL19 := Aside0.mk (show (x5_1 : Int).toNat ≤ l0.length from by omega)
      replace q19 := eq_true q19
      refine start_ (n := 13) (S := fun w' => True) (ds := []) (bm 13 0) (by kernel_rfl) rfl rfl trivial (fun hHeld => ?_); refine with_tabW spec_l3Num.tab6 spec_l3Num.bits6 (fun HT_ HW_ => ?_)
      generalize wr.drew = w17 at HO_0 HK HB HR150 HR163 hHeld ⊢
      refine pu 1 34 (bm 13 2) ?_
      refine pu 2 35 (bm 13 6) ?_
      refine pu 3 36 (bm 13 14) ?_
      refine pu 5 38 (bm 13 46) ?_
      refine pu 8 41 (bm 13 302) ?_
      refine pu 9 42 (bm 13 814) ?_
      refine pu 10 43 (bm 13 1838) ?_
      refine join_ (σ := Value × Value × Value) 3 (bm 13 1919) (fun s_ => [(33, s_.1), (37, s_.2.1), (39, s_.2.2)]) (fun s_ w' => (Kd.R (Kd.int .i64) 3 w' w0.heap.size (fun k_ => (P0_ k_ ∨ w.heap.size ≤ k_) ∧ some k_ ≠ (s_.2.2 : Value).ownBlock ∧ some k_ ≠ (.slice (some ad142) l0.length co16 : Value).ownBlock) s_.2.1 y151) ∧ (Kd.R (Kd.int .i64) 3 w' w0.heap.size (fun k_ => (P0_ k_ ∨ w.heap.size ≤ k_) ∧ some k_ ≠ (s_.2.1 : Value).ownBlock ∧ some k_ ≠ (.slice (some ad142) l0.length co16 : Value).ownBlock) s_.2.2 y154) ∧ (Kd.R (Kd.int .i64) 3 w' w0.heap.size (fun k_ => (P0_ k_ ∨ w.heap.size ≤ k_) ∧ some k_ ≠ (s_.2.1 : Value).ownBlock ∧ some k_ ≠ (s_.2.2 : Value).ownBlock) (.slice (some ad142) l0.length co16) l0) ∧ (Kept w w' (fun k_ => P0_ k_)) ∧ (Below w0.heap.size w0 w')) ?_ ?_
      rotate_left
      ·intro hCont
       refine two_ (i := 0) (j := 6) (Ni := some 33) (Nj := some 39) (bm 13 1839) (bm 13 1902) rfl rfl rfl rfl (two_of HT_.out (by kernel_rfl)) (by decide) (by decide) (fun K hK => ?_) (fun K hK => ?_)
       ·skip
        refine rls (Kd.int .i64) 3 33 ([] : List Int) [] ?hp ?_; (case hp => exact zz12)
        intro v145 w20 ho21 hb hg_ hnew_
        clear hg_ hnew_
        (first | rw [← Ny144.out] at ho21 | (simp only [Int.reduceToNat] at ho21; rw [← Ny144.out] at ho21))
        have HO146 := Aside0.mk (Kd.R_lower (Kd.R_new' (Kd.R_newM (M := fun k_ => (P0_ k_ ∨ w.heap.size ≤ k_)) ho21 (by first | exact HK.out.1 | exact (show Kept w _ (fun k_ => P0_ k_) from zz18).1) (fun k_ h_ => .inr h_)) (Kd.R_lt (zz13 HO_0))) (below_size zz2))
        replace HO_0 := Aside0.mk (Kd.R_elder' (zz13 HO_0) (Kd.R_base ho21) hb)
        replace HR150 := Aside0.mk (Kd.C_below (zz20 HR150) hb)
        replace HR163 := Aside0.mk (Kd.C_below (zz20 HR163) hb)
        replace HK := Aside0.mk (Kept.below (S := (fun k_ => P0_ k_)) zz18 hb)
        replace HB := Aside0.mk (below_step zz2 hb)
        clear hb ho21
        refine hK.out _ _ trivial (fun hHeld => ?_)
        clear hK K
        refine nm 33 ?_
        refine two_ (i := 4) (j := 6) (Ni := some 37) (Nj := some 39) (bm 13 1855) (bm 13 1903) rfl rfl rfl rfl (two_of HT_.out (by kernel_rfl)) (by decide) (by decide) (fun K hK => ?_) (fun K hK => ?_)
        ·skip
         refine Kd.R_append_rows_step (Kd.int .i64) (w0 := w0) w0.heap.size (by rfl) (.tmp 33) (.tmp 36) 65 3 (.int .i64 0) 8 rfl Try.underlying65 info3 rfl (by decide) (by omega) v145 y144 y147 _ _ _ (fun k_ => (P0_ k_ ∨ w.heap.size ≤ k_) ∧ some k_ ≠ (.slice (some ad142) l0.length co16 : Value).ownBlock) (fun _ => False) rfl rfl ?aO ?aR (fun _ _ h => h) (fun _ h => h.elim) ?aF ?aB ?aS ?aL ?_
         (case aR => exact zz21 HR150)
         (case aB => exact zz2)
         (case aF => exact (fun k_ hk => ⟨(.inr (Nat.le_trans (by first | exact HK.out.1 | exact (show Kept w _ (fun k_ => P0_ k_) from zz18).1) hk)), Kd.fresh' (Kd.R_lt (zz13 HO_0)) k_ hk⟩))
         (case aO => exact zz22 HO146)
         (case aS => exact zz23)
         (case aL => exact zz9 LMc11)
         intro v152 w22 ho hb hg hat
         rw [← Ny151.out] at ho
         replace HB := Aside0.mk hb
         replace HK := Aside0.mk (Kept.of_grown (S := (fun k_ => P0_ k_)) hg zz18 (fun k_ e_ => (HO146.out.1 k_ e_).1.1))
         replace HR150 := Aside0.mk (show Kd.C (Kd.int .i64) w22 (some ad142) y147.length y147 from by rw [Ny147.out]; exact Kd.C_take (m := (x5_1 : Int).toNat) ((Kd.R_reads' (Kd.R_after (ok := (fun k_ => (P0_ k_ ∨ w.heap.size ≤ k_))) (zz13 HO_0) hg hat)).2.2) KL18.out)
         replace HR163 := Aside0.mk (show Kd.C (Kd.int .i64) w22 A19 y160.length y160 from by rw [Ny160.out, KA19.out]; exact Kd.C_drop (m := (x5_1 : Int).toNat) (c := co16) ((Kd.R_reads' (Kd.R_after (ok := (fun k_ => (P0_ k_ ∨ w.heap.size ≤ k_))) (zz13 HO_0) hg hat)).2.2) KL19.out ((Kd.R_reads' (Kd.R_after (ok := (fun k_ => (P0_ k_ ∨ w.heap.size ≤ k_))) (zz13 HO_0) hg hat)).2.1))
         replace HO_0 := Aside0.mk (Kd.R_after (ok := (fun k_ => (P0_ k_ ∨ w.heap.size ≤ k_))) (zz13 HO_0) hg hat)
         have HO153 := Aside0.mk ho
         clear HO146 ho hb hg hat
         refine hK.out _ _ trivial (fun hHeld => ?_)
         clear hK K
         refine nm 37 ?_
         refine on 6 (some 39) (bm 13 1919) (fun K hK => ?_)
         refine rls (Kd.int .i64) 3 39 ([a1] : List Int) [.int .i64 a1] ?hp ?_; (case hp => exact zz24)
         intro v155 w23 ho24 hb hg_ hnew_
         clear hg_ hnew_
         (first | rw [← Ny154.out] at ho24 | (simp only [Int.reduceToNat] at ho24; rw [← Ny154.out] at ho24))
         have HO156 := Aside0.mk (Kd.R_lower (Kd.R_new' (Kd.R_new' (Kd.R_newM (M := fun k_ => (P0_ k_ ∨ w.heap.size ≤ k_)) ho24 (by first | exact HK.out.1 | exact (show Kept w _ (fun k_ => P0_ k_) from zz18).1) (fun k_ h_ => .inr h_)) (Kd.R_lt (zz13 HO_0))) (Kd.R_lt (zz13 HO153))) (below_size zz2))
         replace HO_0 := Aside0.mk (Kd.R_elder' (zz13 HO_0) (Kd.R_base ho24) hb)
         replace HO153 := Aside0.mk (Kd.R_elder' (zz13 HO153) (Kd.R_base ho24) hb)
         replace HR150 := Aside0.mk (Kd.C_below (zz20 HR150) hb)
         replace HR163 := Aside0.mk (Kd.C_below (zz20 HR163) hb)
         replace HK := Aside0.mk (Kept.below (S := (fun k_ => P0_ k_)) zz18 hb)
         replace HB := Aside0.mk (below_step zz2 hb)
         clear hb ho24
         refine hK.out _ _ trivial (fun hHeld => ?_)
         clear hK K
         refine nm 39 ?_
         exact norm_ zz25 (hCont (v145, v152, v155) _ ⟨(zz26 HO153), (zz27 HO156), (zz28 HO_0), zz18, zz2⟩)
        ·skip
         refine rls (Kd.int .i64) 3 39 ([a1] : List Int) [.int .i64 a1] ?hp ?_; (case hp => exact zz24)
         intro v155 w22 ho23 hb hg_ hnew_
         clear hg_ hnew_
         (first | rw [← Ny154.out] at ho23 | (simp only [Int.reduceToNat] at ho23; rw [← Ny154.out] at ho23))
         have HO156 := Aside0.mk (Kd.R_lower (Kd.R_new' (Kd.R_new' (Kd.R_newM (M := fun k_ => (P0_ k_ ∨ w.heap.size ≤ k_)) ho23 (by first | exact HK.out.1 | exact (show Kept w _ (fun k_ => P0_ k_) from zz18).1) (fun k_ h_ => .inr h_)) (Kd.R_lt (zz13 HO_0))) (Kd.R_lt (zz13 HO146))) (below_size zz2))
         replace HO_0 := Aside0.mk (Kd.R_elder' (zz13 HO_0) (Kd.R_base ho23) hb)
         replace HO146 := Aside0.mk (Kd.R_elder' (zz13 HO146) (Kd.R_base ho23) hb)
         replace HR150 := Aside0.mk (Kd.C_below (zz20 HR150) hb)
         replace HR163 := Aside0.mk (Kd.C_below (zz20 HR163) hb)
         replace HK := Aside0.mk (Kept.below (S := (fun k_ => P0_ k_)) zz18 hb)
         replace HB := Aside0.mk (below_step zz2 hb)
         clear hb ho23
         refine hK.out _ _ trivial (fun hHeld => ?_)
         clear hK K
         refine nm 39 ?_
         refine on 4 (some 37) (bm 13 1919) (fun K hK => ?_)
         refine Kd.R_append_rows_step (Kd.int .i64) (w0 := w0) w0.heap.size (by rfl) (.tmp 33) (.tmp 36) 65 3 (.int .i64 0) 8 rfl Try.underlying65 info3 rfl (by decide) (by omega) v145 y144 y147 _ _ _ (fun k_ => (P0_ k_ ∨ w.heap.size ≤ k_) ∧ some k_ ≠ (.slice (some ad142) l0.length co16 : Value).ownBlock ∧ some k_ ≠ (v155 : Value).ownBlock) (fun _ => False) rfl rfl ?aO ?aR (fun _ _ h => h) (fun _ h => h.elim) ?aF ?aB ?aS ?aL ?_
         (case aR => exact zz21 HR150)
         (case aB => exact zz2)
         (case aF => exact (fun k_ hk => ⟨(.inr (Nat.le_trans (by first | exact HK.out.1 | exact (show Kept w _ (fun k_ => P0_ k_) from zz18).1) hk)), Kd.fresh' (Kd.R_lt (zz13 HO_0)) k_ hk, Kd.fresh' (Kd.R_lt (zz13 HO156)) k_ hk⟩))
         (case aO => exact zz29 HO146)
         (case aS => exact zz23)
         (case aL => exact zz9 LMc11)
         intro v152 w24 ho hb hg hat
         rw [← Ny151.out] at ho
         replace HO156 := Aside0.mk (Kd.R_after (ok := (fun k_ => (P0_ k_ ∨ w.heap.size ≤ k_) ∧ some k_ ≠ (.slice (some ad142) l0.length co16 : Value).ownBlock)) (zz30 HO156) hg hat)
         replace HB := Aside0.mk hb
         replace HK := Aside0.mk (Kept.of_grown (S := (fun k_ => P0_ k_)) hg zz18 (fun k_ e_ => (HO146.out.1 k_ e_).1.1.1))
         replace HR150 := Aside0.mk (show Kd.C (Kd.int .i64) w24 (some ad142) y147.length y147 from by rw [Ny147.out]; exact Kd.C_take (m := (x5_1 : Int).toNat) ((Kd.R_reads' (Kd.R_after (ok := (fun k_ => (P0_ k_ ∨ w.heap.size ≤ k_) ∧ some k_ ≠ (v155 : Value).ownBlock)) (zz31 HO_0) hg hat)).2.2) KL18.out)
         replace HR163 := Aside0.mk (show Kd.C (Kd.int .i64) w24 A19 y160.length y160 from by rw [Ny160.out, KA19.out]; exact Kd.C_drop (m := (x5_1 : Int).toNat) (c := co16) ((Kd.R_reads' (Kd.R_after (ok := (fun k_ => (P0_ k_ ∨ w.heap.size ≤ k_) ∧ some k_ ≠ (v155 : Value).ownBlock)) (zz31 HO_0) hg hat)).2.2) KL19.out ((Kd.R_reads' (Kd.R_after (ok := (fun k_ => (P0_ k_ ∨ w.heap.size ≤ k_) ∧ some k_ ≠ (v155 : Value).ownBlock)) (zz31 HO_0) hg hat)).2.1))
         replace HO_0 := Aside0.mk (Kd.R_after (ok := (fun k_ => (P0_ k_ ∨ w.heap.size ≤ k_) ∧ some k_ ≠ (v155 : Value).ownBlock)) (zz31 HO_0) hg hat)
         have HO153 := Aside0.mk ho
         clear HO146 ho hb hg hat
         refine hK.out _ _ trivial (fun hHeld => ?_)
         clear hK K
         refine nm 37 ?_
         exact norm_ zz25 (hCont (v145, v152, v155) _ ⟨(zz32 HO153), (zz26 HO156), (zz26 HO_0), zz18, zz2⟩)
       ·skip
        refine rls (Kd.int .i64) 3 39 ([a1] : List Int) [.int .i64 a1] ?hp ?_; (case hp => exact zz24)
        intro v155 w20 ho21 hb hg_ hnew_
        clear hg_ hnew_
        (first | rw [← Ny154.out] at ho21 | (simp only [Int.reduceToNat] at ho21; rw [← Ny154.out] at ho21))
        have HO156 := Aside0.mk (Kd.R_lower (Kd.R_new' (Kd.R_newM (M := fun k_ => (P0_ k_ ∨ w.heap.size ≤ k_)) ho21 (by first | exact HK.out.1 | exact (show Kept w _ (fun k_ => P0_ k_) from zz18).1) (fun k_ h_ => .inr h_)) (Kd.R_lt (zz13 HO_0))) (below_size zz2))
        replace HO_0 := Aside0.mk (Kd.R_elder' (zz13 HO_0) (Kd.R_base ho21) hb)
        replace HR150 := Aside0.mk (Kd.C_below (zz20 HR150) hb)
        replace HR163 := Aside0.mk (Kd.C_below (zz20 HR163) hb)
        replace HK := Aside0.mk (Kept.below (S := (fun k_ => P0_ k_)) zz18 hb)
        replace HB := Aside0.mk (below_step zz2 hb)
        clear hb ho21
        refine hK.out _ _ trivial (fun hHeld => ?_)
        clear hK K
        refine nm 39 ?_
        refine on 0 (some 33) (bm 13 1903) (fun K hK => ?_)
        refine rls (Kd.int .i64) 3 33 ([] : List Int) [] ?hp ?_; (case hp => exact zz12)
        intro v145 w22 ho23 hb hg_ hnew_
        clear hg_ hnew_
        (first | rw [← Ny144.out] at ho23 | (simp only [Int.reduceToNat] at ho23; rw [← Ny144.out] at ho23))
        have HO146 := Aside0.mk (Kd.R_lower (Kd.R_new' (Kd.R_new' (Kd.R_newM (M := fun k_ => (P0_ k_ ∨ w.heap.size ≤ k_)) ho23 (by first | exact HK.out.1 | exact (show Kept w _ (fun k_ => P0_ k_) from zz18).1) (fun k_ h_ => .inr h_)) (Kd.R_lt (zz13 HO_0))) (Kd.R_lt (zz13 HO156))) (below_size zz2))
        replace HO_0 := Aside0.mk (Kd.R_elder' (zz13 HO_0) (Kd.R_base ho23) hb)
        replace HO156 := Aside0.mk (Kd.R_elder' (zz13 HO156) (Kd.R_base ho23) hb)
        replace HR150 := Aside0.mk (Kd.C_below (zz20 HR150) hb)
        replace HR163 := Aside0.mk (Kd.C_below (zz20 HR163) hb)
        replace HK := Aside0.mk (Kept.below (S := (fun k_ => P0_ k_)) zz18 hb)
        replace HB := Aside0.mk (below_step zz2 hb)
        clear hb ho23
        refine hK.out _ _ trivial (fun hHeld => ?_)
        clear hK K
        refine nm 33 ?_
        refine on 4 (some 37) (bm 13 1919) (fun K hK => ?_)
        refine Kd.R_append_rows_step (Kd.int .i64) (w0 := w0) w0.heap.size (by rfl) (.tmp 33) (.tmp 36) 65 3 (.int .i64 0) 8 rfl Try.underlying65 info3 rfl (by decide) (by omega) v145 y144 y147 _ _ _ (fun k_ => (P0_ k_ ∨ w.heap.size ≤ k_) ∧ some k_ ≠ (.slice (some ad142) l0.length co16 : Value).ownBlock ∧ some k_ ≠ (v155 : Value).ownBlock) (fun _ => False) rfl rfl ?aO ?aR (fun _ _ h => h) (fun _ h => h.elim) ?aF ?aB ?aS ?aL ?_
        (case aR => exact zz21 HR150)
        (case aB => exact zz2)
        (case aF => exact (fun k_ hk => ⟨(.inr (Nat.le_trans (by first | exact HK.out.1 | exact (show Kept w _ (fun k_ => P0_ k_) from zz18).1) hk)), Kd.fresh' (Kd.R_lt (zz13 HO_0)) k_ hk, Kd.fresh' (Kd.R_lt (zz13 HO156)) k_ hk⟩))
        (case aO => exact zz29 HO146)
        (case aS => exact zz23)
        (case aL => exact zz9 LMc11)
        intro v152 w24 ho hb hg hat
        rw [← Ny151.out] at ho
        replace HO156 := Aside0.mk (Kd.R_after (ok := (fun k_ => (P0_ k_ ∨ w.heap.size ≤ k_) ∧ some k_ ≠ (.slice (some ad142) l0.length co16 : Value).ownBlock)) (zz30 HO156) hg hat)
        replace HB := Aside0.mk hb
        replace HK := Aside0.mk (Kept.of_grown (S := (fun k_ => P0_ k_)) hg zz18 (fun k_ e_ => (HO146.out.1 k_ e_).1.1.1))
        replace HR150 := Aside0.mk (show Kd.C (Kd.int .i64) w24 (some ad142) y147.length y147 from by rw [Ny147.out]; exact Kd.C_take (m := (x5_1 : Int).toNat) ((Kd.R_reads' (Kd.R_after (ok := (fun k_ => (P0_ k_ ∨ w.heap.size ≤ k_) ∧ some k_ ≠ (v155 : Value).ownBlock)) (zz13 HO_0) hg hat)).2.2) KL18.out)
        replace HR163 := Aside0.mk (show Kd.C (Kd.int .i64) w24 A19 y160.length y160 from by rw [Ny160.out, KA19.out]; exact Kd.C_drop (m := (x5_1 : Int).toNat) (c := co16) ((Kd.R_reads' (Kd.R_after (ok := (fun k_ => (P0_ k_ ∨ w.heap.size ≤ k_) ∧ some k_ ≠ (v155 : Value).ownBlock)) (zz13 HO_0) hg hat)).2.2) KL19.out ((Kd.R_reads' (Kd.R_after (ok := (fun k_ => (P0_ k_ ∨ w.heap.size ≤ k_) ∧ some k_ ≠ (v155 : Value).ownBlock)) (zz13 HO_0) hg hat)).2.1))
        replace HO_0 := Aside0.mk (Kd.R_after (ok := (fun k_ => (P0_ k_ ∨ w.heap.size ≤ k_) ∧ some k_ ≠ (v155 : Value).ownBlock)) (zz13 HO_0) hg hat)
        have HO153 := Aside0.mk ho
        clear HO146 ho hb hg hat
        refine hK.out _ _ trivial (fun hHeld => ?_)
        clear hK K
        refine nm 37 ?_
        exact norm_ zz25 (hCont (v145, v152, v155) _ ⟨(zz32 HO153), (zz26 HO156), (zz26 HO_0), zz18, zz2⟩)
      rintro ⟨v145, v152, v155⟩ w25 ⟨h0_, h1_, h2_, h3_, h4_⟩
      have HO153 : Aside0 (Kd.R (Kd.int .i64) 3 w25 w0.heap.size (fun k_ => (P0_ k_ ∨ w.heap.size ≤ k_) ∧ some k_ ≠ (v155 : Value).ownBlock ∧ some k_ ≠ (.slice (some ad142) l0.length co16 : Value).ownBlock) v152 y151) := ⟨h0_⟩
      have HO156 : Aside0 (Kd.R (Kd.int .i64) 3 w25 w0.heap.size (fun k_ => (P0_ k_ ∨ w.heap.size ≤ k_) ∧ some k_ ≠ (v152 : Value).ownBlock ∧ some k_ ≠ (.slice (some ad142) l0.length co16 : Value).ownBlock) v155 y154) := ⟨h1_⟩
      replace HO_0 : Aside0 (Kd.R (Kd.int .i64) 3 w25 w0.heap.size (fun k_ => (P0_ k_ ∨ w.heap.size ≤ k_) ∧ some k_ ≠ (v152 : Value).ownBlock ∧ some k_ ≠ (v155 : Value).ownBlock) (.slice (some ad142) l0.length co16) l0) := ⟨h2_⟩
      replace HK : Aside0 (Kept w w25 (fun k_ => P0_ k_)) := ⟨h3_⟩
      replace HB : Aside0 (Below w0.heap.size w0 w25) := ⟨h4_⟩
      clear h0_ h1_ h2_ h3_ h4_
      have hHeld := trivial
      have HR150 := Aside0.mk (show Kd.C (Kd.int .i64) w25 (some ad142) y147.length y147 from by rw [Ny147.out]; exact Kd.C_take (m := (x5_1 : Int).toNat) ((Kd.R_reads' HO_0.out).2.2) KL18.out)
      have HR163 := Aside0.mk (show Kd.C (Kd.int .i64) w25 A19 y160.length y160 from by rw [Ny160.out, KA19.out]; exact Kd.C_drop (m := (x5_1 : Int).toNat) (c := co16) ((Kd.R_reads' HO_0.out).2.2) KL19.out ((Kd.R_reads' HO_0.out).2.1))
      obtain ⟨Ao27, co27, eo27⟩ := Kd.R_slice HO156.out
      (first | subst eo27 | (injection eo27 with f1_ f2_ f3_; have f4_ := f1_.symm; have f5_ := f3_.symm; clear f1_ f2_ f3_; subst f4_; subst f5_))
      refine norm_ (a' := ?_) ?_ ?_
      rotate_left
      ·simp only [putAll, Act.put, List.setIfInBounds_toArray, List.set_cons_zero, List.set_cons_succ]
       rfl
      refine on 7 (some 40) (bm 13 2047) (fun K hK => ?_)
      refine Kd.R_append_rows_step (Kd.int .i64) (w0 := w0) w0.heap.size (by rfl) (.tmp 37) (.tmp 39) 65 3 (.int .i64 0) 8 rfl Try.underlying65 info3 rfl (by decide) (by omega) v152 y151 y154 _ _ _ (fun k_ => (P0_ k_ ∨ w.heap.size ≤ k_) ∧ some k_ ≠ (.slice (some ad142) l0.length co16 : Value).ownBlock ∧ some k_ ≠ (.slice Ao27 y154.length co27 : Value).ownBlock) (fun _ => False) rfl rfl ?aO ?aR (fun _ _ h => h) (fun _ h => h.elim) ?aF ?aB ?aS ?aL ?_
      (case aR => exact zz33 HO156)
      (case aB => exact zz2)
      (case aF => exact (fun k_ hk => ⟨(.inr (Nat.le_trans (by first | exact HK.out.1 | exact (show Kept w _ (fun k_ => P0_ k_) from zz18).1) hk)), Kd.fresh' (Kd.R_lt (zz13 HO_0)) k_ hk, Kd.fresh' (Kd.R_lt (zz13 HO156)) k_ hk⟩))
      (case aO => exact zz32 HO153)
      (case aS => exact zz23)
      (case aL => exact zz9 LMc12)
      intro v158 w26 ho hb hg hat
      rw [← Ny157.out] at ho
      replace HO156 := Aside0.mk (Kd.R_after (ok := (fun k_ => (P0_ k_ ∨ w.heap.size ≤ k_) ∧ some k_ ≠ (.slice (some ad142) l0.length co16 : Value).ownBlock)) (zz34 HO156) hg hat)
      replace HB := Aside0.mk hb
      replace HK := Aside0.mk (Kept.of_grown (S := (fun k_ => P0_ k_)) hg zz18 (fun k_ e_ => (HO153.out.1 k_ e_).1))
      replace HR150 := Aside0.mk (show Kd.C (Kd.int .i64) w26 (some ad142) y147.length y147 from by rw [Ny147.out]; exact Kd.C_take (m := (x5_1 : Int).toNat) ((Kd.R_reads' (Kd.R_after (ok := (fun k_ => (P0_ k_ ∨ w.heap.size ≤ k_) ∧ some k_ ≠ (.slice Ao27 y154.length co27 : Value).ownBlock)) (zz34 HO_0) hg hat)).2.2) KL18.out)
      replace HR163 := Aside0.mk (show Kd.C (Kd.int .i64) w26 A19 y160.length y160 from by rw [Ny160.out, KA19.out]; exact Kd.C_drop (m := (x5_1 : Int).toNat) (c := co16) ((Kd.R_reads' (Kd.R_after (ok := (fun k_ => (P0_ k_ ∨ w.heap.size ≤ k_) ∧ some k_ ≠ (.slice Ao27 y154.length co27 : Value).ownBlock)) (zz34 HO_0) hg hat)).2.2) KL19.out ((Kd.R_reads' (Kd.R_after (ok := (fun k_ => (P0_ k_ ∨ w.heap.size ≤ k_) ∧ some k_ ≠ (.slice Ao27 y154.length co27 : Value).ownBlock)) (zz34 HO_0) hg hat)).2.1))
      replace HO_0 := Aside0.mk (Kd.R_after (ok := (fun k_ => (P0_ k_ ∨ w.heap.size ≤ k_) ∧ some k_ ≠ (.slice Ao27 y154.length co27 : Value).ownBlock)) (zz34 HO_0) hg hat)
      have HO159 := Aside0.mk ho
      clear HO153 ho hb hg hat
      refine hK.out _ _ trivial (fun hHeld => ?_)
      clear hK K
      refine nm 40 ?_
      refine on 11 (some 44) (bm 13 4095) (fun K hK => ?_)
      refine Kd.R_append_rows_step (Kd.int .i64) (w0 := w0) w0.heap.size (by rfl) (.tmp 40) (.tmp 43) 65 3 (.int .i64 0) 8 rfl Try.underlying65 info3 rfl (by decide) (by omega) v158 y157 y160 _ _ _ (fun k_ => (P0_ k_ ∨ w.heap.size ≤ k_) ∧ some k_ ≠ (.slice (some ad142) l0.length co16 : Value).ownBlock ∧ some k_ ≠ (.slice Ao27 y154.length co27 : Value).ownBlock) (fun _ => False) rfl rfl ?aO ?aR (fun _ _ h => h) (fun _ h => h.elim) ?aF ?aB ?aS ?aL ?_
      (case aR => exact zz21 HR163)
      (case aB => exact zz2)
      (case aF => exact (fun k_ hk => ⟨(.inr (Nat.le_trans (by first | exact HK.out.1 | exact (show Kept w _ (fun k_ => P0_ k_) from zz18).1) hk)), Kd.fresh' (Kd.R_lt (zz13 HO_0)) k_ hk, Kd.fresh' (Kd.R_lt (zz13 HO156)) k_ hk⟩))
      (case aO => exact zz13 HO159)
      (case aS => exact zz23)
      (case aL => exact zz9 LMc15)
      intro v165 w28 ho hb hg hat
      rw [← Ny164.out] at ho
      replace HO156 := Aside0.mk (Kd.R_after (ok := (fun k_ => (P0_ k_ ∨ w.heap.size ≤ k_) ∧ some k_ ≠ (.slice (some ad142) l0.length co16 : Value).ownBlock)) (zz13 HO156) hg hat)
      replace HB := Aside0.mk hb
      replace HK := Aside0.mk (Kept.of_grown (S := (fun k_ => P0_ k_)) hg zz18 (fun k_ e_ => (HO159.out.1 k_ e_).1))
      replace HR150 := Aside0.mk (show Kd.C (Kd.int .i64) w28 (some ad142) y147.length y147 from by rw [Ny147.out]; exact Kd.C_take (m := (x5_1 : Int).toNat) ((Kd.R_reads' (Kd.R_after (ok := (fun k_ => (P0_ k_ ∨ w.heap.size ≤ k_) ∧ some k_ ≠ (.slice Ao27 y154.length co27 : Value).ownBlock)) (zz13 HO_0) hg hat)).2.2) KL18.out)
      replace HR163 := Aside0.mk (show Kd.C (Kd.int .i64) w28 A19 y160.length y160 from by rw [Ny160.out, KA19.out]; exact Kd.C_drop (m := (x5_1 : Int).toNat) (c := co16) ((Kd.R_reads' (Kd.R_after (ok := (fun k_ => (P0_ k_ ∨ w.heap.size ≤ k_) ∧ some k_ ≠ (.slice Ao27 y154.length co27 : Value).ownBlock)) (zz13 HO_0) hg hat)).2.2) KL19.out ((Kd.R_reads' (Kd.R_after (ok := (fun k_ => (P0_ k_ ∨ w.heap.size ≤ k_) ∧ some k_ ≠ (.slice Ao27 y154.length co27 : Value).ownBlock)) (zz13 HO_0) hg hat)).2.1))
      replace HO_0 := Aside0.mk (Kd.R_after (ok := (fun k_ => (P0_ k_ ∨ w.heap.size ≤ k_) ∧ some k_ ≠ (.slice Ao27 y154.length co27 : Value).ownBlock)) (zz13 HO_0) hg hat)
      have HO166 := Aside0.mk ho
      clear HO159 ho hb hg hat
      refine hK.out _ _ trivial (fun hHeld => ?_)
      clear hK K
      refine nm 44 ?_
      refine pu 12 4 (bm 13 8191) ?_
      refine done_ (done_of HT_.out (by kernel_rfl)) ?_
      try go_wp2
      go_ret
      exact ⟨_, zz6, zz35 HO166, zz2, zz18⟩
   ·obtain ⟨y167, hy167⟩ : ∃ y_ : List Int, y_ = (([] : List Int)) := ⟨_, rfl⟩
    replace H : (if 0 ≤ x5_1 then (if x5_1 ≤ (l0.length : Int) then ((some (l0.take (x5_1 : Int).toNat : List Int)).bind fun y170 => (if y167.length + y170.length < 17592186044416 then ((some (y167 ++ y170 : List Int)).bind fun y174 => ((some (([a1] : List Int) : List Int)).bind fun y177 => (if y174.length + y177.length < 17592186044416 then ((some (y174 ++ y177 : List Int)).bind fun y180 => ((some (l0.drop (x5_1 : Int).toNat : List Int)).bind fun y183 => (if y180.length + y183.length < 17592186044416 then (some (y180 ++ y183)) else (none)))) else (none)))) else (none))) else (none)) else (none)) = some r := by first | (rw [hy167]; with_reducible exact H) | (have H2_ := (Option.bind_some _ _).symm.trans H; rw [hy167]; with_reducible exact H2_) | (have H2_ := (Option.bind_some _ _).symm.trans H; with_reducible exact H2_) | with_reducible exact H | (rw [hy167]; exact H) | exact H
    have Ny167 := Aside0.mk hy167
    clear hy167
    by_cases c29 : 0 ≤ x5_1
    ·rw [if_pos c29] at H
     have c29b0 := eq_true c29
     have c29b1 : decide (0 ≤ x5_1) = true := decide_eq_true c29
     clear c29
     replace H := gp H
     obtain ⟨c30, H⟩ := H
     have c30b0 := eq_true c30
     have c30b1 : decide (x5_1 ≤ (l0.length : Int)) = true := decide_eq_true c30
     clear c30
     obtain ⟨y170, hy170⟩ : ∃ y_ : List Int, y_ = (l0.take (x5_1 : Int).toNat) := ⟨_, rfl⟩
     replace H : (if y167.length + y170.length < 17592186044416 then ((some (y167 ++ y170 : List Int)).bind fun y174 => ((some (([a1] : List Int) : List Int)).bind fun y177 => (if y174.length + y177.length < 17592186044416 then ((some (y174 ++ y177 : List Int)).bind fun y180 => ((some (l0.drop (x5_1 : Int).toNat : List Int)).bind fun y183 => (if y180.length + y183.length < 17592186044416 then (some (y180 ++ y183)) else (none)))) else (none)))) else (none)) = some r := by first | (rw [hy170]; with_reducible exact H) | (have H2_ := (Option.bind_some _ _).symm.trans H; rw [hy170]; with_reducible exact H2_) | (have H2_ := (Option.bind_some _ _).symm.trans H; with_reducible exact H2_) | with_reducible exact H | (rw [hy170]; exact H) | exact H
     have Ny170 := Aside0.mk hy170
     clear hy170
     replace H := gp H
     obtain ⟨c31, H⟩ := H
     have LMc31 := Aside0.mk c31
     clear c31
     obtain ⟨y174, hy174⟩ : ∃ y_ : List Int, y_ = (y167 ++ y170) := ⟨_, rfl⟩
     replace H : ((some (([a1] : List Int) : List Int)).bind fun y177 => (if y174.length + y177.length < 17592186044416 then ((some (y174 ++ y177 : List Int)).bind fun y180 => ((some (l0.drop (x5_1 : Int).toNat : List Int)).bind fun y183 => (if y180.length + y183.length < 17592186044416 then (some (y180 ++ y183)) else (none)))) else (none))) = some r := by first | (rw [hy174]; with_reducible exact H) | (have H2_ := (Option.bind_some _ _).symm.trans H; rw [hy174]; with_reducible exact H2_) | (have H2_ := (Option.bind_some _ _).symm.trans H; with_reducible exact H2_) | with_reducible exact H | (rw [hy174]; exact H) | exact H
     have Ny174 := Aside0.mk hy174
     clear hy174
     obtain ⟨y177, hy177⟩ : ∃ y_ : List Int, y_ = (([a1] : List Int)) := ⟨_, rfl⟩
     replace H : (if y174.length + y177.length < 17592186044416 then ((some (y174 ++ y177 : List Int)).bind fun y180 => ((some (l0.drop (x5_1 : Int).toNat : List Int)).bind fun y183 => (if y180.length + y183.length < 17592186044416 then (some (y180 ++ y183)) else (none)))) else (none)) = some r := by first | (rw [hy177]; with_reducible exact H) | (have H2_ := (Option.bind_some _ _).symm.trans H; rw [hy177]; with_reducible exact H2_) | (have H2_ := (Option.bind_some _ _).symm.trans H; with_reducible exact H2_) | with_reducible exact H | (rw [hy177]; exact H) | exact H
     have Ny177 := Aside0.mk hy177
     clear hy177
     replace H := gp H
     obtain ⟨c32, H⟩ := H
     have LMc32 := Aside0.mk c32
     clear c32
     obtain ⟨y180, hy180⟩ : ∃ y_ : List Int, y_ = (y174 ++ y177) := ⟨_, rfl⟩
     replace H : ((some (l0.drop (x5_1 : Int).toNat : List Int)).bind fun y183 => (if y180.length + y183.length < 17592186044416 then (some (y180 ++ y183)) else (none))) = some r := by first | (rw [hy180]; with_reducible exact H) | (have H2_ := (Option.bind_some _ _).symm.trans H; rw [hy180]; with_reducible exact H2_) | (have H2_ := (Option.bind_some _ _).symm.trans H; with_reducible exact H2_) | with_reducible exact H | (rw [hy180]; exact H) | exact H
     have Ny180 := Aside0.mk hy180
     clear hy180
     have c33b0 := eq_true (of_decide_eq_true zz19 : 0 ≤ x5_1)
     have c34b0 := eq_true (of_decide_eq_true zz19 : x5_1 ≤ (l0.length : Int))
     obtain ⟨y183, hy183⟩ : ∃ y_ : List Int, y_ = (l0.drop (x5_1 : Int).toNat) := ⟨_, rfl⟩
     replace H : (if y180.length + y183.length < 17592186044416 then (some (y180 ++ y183)) else (none)) = some r := by first | (rw [hy183]; with_reducible exact H) | (have H2_ := (Option.bind_some _ _).symm.trans H; rw [hy183]; with_reducible exact H2_) | (have H2_ := (Option.bind_some _ _).symm.trans H; with_reducible exact H2_) | with_reducible exact H | (rw [hy183]; exact H) | exact H
     have Ny183 := Aside0.mk hy183
     clear hy183
     replace H := gp H
     obtain ⟨c35, H⟩ := H
     have LMc35 := Aside0.mk c35
     clear c35
     obtain ⟨y187, hy187⟩ : ∃ y_ : List Int, y_ = (y180 ++ y183) := ⟨_, rfl⟩
     replace H : (some y187) = some r := by first | (rw [hy187]; with_reducible exact H) | (have H2_ := (Option.bind_some _ _).symm.trans H; rw [hy187]; with_reducible exact H2_) | (have H2_ := (Option.bind_some _ _).symm.trans H; with_reducible exact H2_) | with_reducible exact H | (rw [hy187]; exact H) | exact H
     have Ny187 := Aside0.mk hy187
     clear hy187
     obtain rfl := Option.some.inj H
     obtain ⟨Ao36, co36, eo36⟩ := Kd.R_slice HO_0.out
     subst eo36
     try go_wp2
     replace HO_0 := Aside0.mk (Kd.R_drew HO_0.out)
     replace HK := Aside0.mk (Kept.drew HK.out)
     replace HB := Aside0.mk (below_drew1 HB.out)
     have q38 : (x5_1 : Int) ≤ ((l0.length : Int) : Int) := da
     obtain ⟨i038, hi038, _, hsz38, _⟩ := info_parts info3
     have hroom38 : l0.length ≤ co36 := (Kd.R_reads' HO_0.out).2.1
     have hC38 : Kd.C (Kd.int .i64) _ Ao36 l0.length l0 := (Kd.R_reads' HO_0.out).2.2
     have hcut38 := cut_to (P := Try.prog) 65 3 .i64 Try.underlying65 hi038 Ao36 l0.length co36 x5_1 (of_decide_eq_true zz19) q38 hroom38
     have hr38 := Kd.C_take (m := (x5_1 : Int).toNat) hC38 (by omega)
     have hy38 : y170.length = (x5_1 : Int).toNat := (by rw [Ny170.out, List.length_take]; omega)
     rw [← Ny170.out] at hr38
     rw [← hy38] at hcut38
     have HR173 := Aside0.mk hr38
     have HC173 := Aside0.mk (show y170.length ≤ co36 from by omega)
     clear hr38 hC38 hroom38 hi038 hsz38
     have KY38 := Aside0.mk hy38
     clear hy38
     have KL38 := Aside0.mk (show (x5_1 : Int).toNat ≤ l0.length from by omega)
     replace q38 := eq_true q38
     have q39 : (x5_1 : Int) ≤ ((l0.length : Int) : Int) := da
     obtain ⟨i039, hi039, _, hsz39, _⟩ := info_parts info3
     have hroom39 : l0.length ≤ co36 := (Kd.R_reads' HO_0.out).2.1
     have hC39 : Kd.C (Kd.int .i64) _ Ao36 l0.length l0 := (Kd.R_reads' HO_0.out).2.2
     have q039 : (0 : Int) ≤ (x5_1 : Int) := da
     have hcut39 := cut_from (P := Try.prog) 65 3 .i64 Try.underlying65 hi039 1 hsz39 Ao36 l0.length co36 x5_1 q039 q39
     have hr39 := Kd.C_drop (m := (x5_1 : Int).toNat) (c := co36) hC39 (by omega) hroom39
     obtain ⟨A39, hA39⟩ : ∃ A1, A1 = (if co36 = (x5_1 : Int).toNat then Ao36 else (Ao36 : Option Addr).map (·.add ((x5_1 : Int).toNat * 1))) := ⟨_, rfl⟩
     obtain ⟨c39, hc39⟩ : ∃ c1, c1 = co36 - (x5_1 : Int).toNat := ⟨_, rfl⟩
     have hy39 : y183.length = l0.length - (x5_1 : Int).toNat := (by rw [Ny183.out, List.length_drop] <;> omega)
     rw [show (l0).drop (x5_1 : Int).toNat = y183 from Ny183.out.symm] at hr39
     replace hr39 : Kd.C (Kd.int .i64) _ A39 y183.length y183 := (by rw [hA39]; exact hr39)
     rw [← hy39, ← hA39, ← hc39] at hcut39
     have HR186 := Aside0.mk hr39
     have HC186 := Aside0.mk (show y183.length ≤ c39 from by rw [hy39, hc39]; exact Nat.sub_le_sub_right hroom39 _)
     clear hr39 hC39 hroom39 hi039 hsz39 hc39
     have KY39 := Aside0.mk hy39
     have KA39 := Aside0.mk hA39
     clear hy39 hA39
     have KL39 := Aside0.mk (show (x5_1 : Int).toNat ≤ l0.length from by omega)
     replace q39 := eq_true q39
     refine start_ (n := 13) (S := fun w' => True) (ds := []) (bm 13 0) (by kernel_rfl) rfl rfl trivial (fun hHeld => ?_); refine with_tabW spec_l3Num.tab6 spec_l3Num.bits6 (fun HT_ HW_ => ?_)
     generalize wr.drew = w37 at HO_0 HK HB HR173 HR186 hHeld ⊢
     refine pu 1 34 (bm 13 2) ?_
     refine pu 2 35 (bm 13 6) ?_
     refine pu 3 36 (bm 13 14) ?_
     refine pu 5 38 (bm 13 46) ?_
     refine pu 8 41 (bm 13 302) ?_
     refine pu 9 42 (bm 13 814) ?_
     refine pu 10 43 (bm 13 1838) ?_
     refine join_ (σ := Value × Value × Value) 3 (bm 13 1919) (fun s_ => [(33, s_.1), (37, s_.2.1), (39, s_.2.2)]) (fun s_ w' => (Kd.R (Kd.int .i64) 3 w' w0.heap.size (fun k_ => (P0_ k_ ∨ w.heap.size ≤ k_) ∧ some k_ ≠ (s_.2.2 : Value).ownBlock ∧ some k_ ≠ (.slice Ao36 l0.length co36 : Value).ownBlock) s_.2.1 y174) ∧ (Kd.R (Kd.int .i64) 3 w' w0.heap.size (fun k_ => (P0_ k_ ∨ w.heap.size ≤ k_) ∧ some k_ ≠ (s_.2.1 : Value).ownBlock ∧ some k_ ≠ (.slice Ao36 l0.length co36 : Value).ownBlock) s_.2.2 y177) ∧ (Kd.R (Kd.int .i64) 3 w' w0.heap.size (fun k_ => (P0_ k_ ∨ w.heap.size ≤ k_) ∧ some k_ ≠ (s_.2.1 : Value).ownBlock ∧ some k_ ≠ (s_.2.2 : Value).ownBlock) (.slice Ao36 l0.length co36) l0) ∧ (Kept w w' (fun k_ => P0_ k_)) ∧ (Below w0.heap.size w0 w')) ?_ ?_
     rotate_left
     ·intro hCont
      refine two_ (i := 0) (j := 6) (Ni := some 33) (Nj := some 39) (bm 13 1839) (bm 13 1902) rfl rfl rfl rfl (two_of HT_.out (by kernel_rfl)) (by decide) (by decide) (fun K hK => ?_) (fun K hK => ?_)
      ·skip
       refine rls (Kd.int .i64) 3 33 ([] : List Int) [] ?hp ?_; (case hp => exact zz12)
       intro v168 w40 ho41 hb hg_ hnew_
       clear hg_ hnew_
       (first | rw [← Ny167.out] at ho41 | (simp only [Int.reduceToNat] at ho41; rw [← Ny167.out] at ho41))
       have HO169 := Aside0.mk (Kd.R_lower (Kd.R_new' (Kd.R_newM (M := fun k_ => (P0_ k_ ∨ w.heap.size ≤ k_)) ho41 (by first | exact HK.out.1 | exact (show Kept w _ (fun k_ => P0_ k_) from zz18).1) (fun k_ h_ => .inr h_)) (Kd.R_lt (zz13 HO_0))) (below_size zz2))
       replace HO_0 := Aside0.mk (Kd.R_elder' (zz13 HO_0) (Kd.R_base ho41) hb)
       replace HR173 := Aside0.mk (Kd.C_below (zz20 HR173) hb)
       replace HR186 := Aside0.mk (Kd.C_below (zz20 HR186) hb)
       replace HK := Aside0.mk (Kept.below (S := (fun k_ => P0_ k_)) zz18 hb)
       replace HB := Aside0.mk (below_step zz2 hb)
       clear hb ho41
       refine hK.out _ _ trivial (fun hHeld => ?_)
       clear hK K
       refine nm 33 ?_
       refine two_ (i := 4) (j := 6) (Ni := some 37) (Nj := some 39) (bm 13 1855) (bm 13 1903) rfl rfl rfl rfl (two_of HT_.out (by kernel_rfl)) (by decide) (by decide) (fun K hK => ?_) (fun K hK => ?_)
       ·skip
        refine Kd.R_append_rows_step (Kd.int .i64) (w0 := w0) w0.heap.size (by rfl) (.tmp 33) (.tmp 36) 65 3 (.int .i64 0) 8 rfl Try.underlying65 info3 rfl (by decide) (by omega) v168 y167 y170 _ _ _ (fun k_ => (P0_ k_ ∨ w.heap.size ≤ k_) ∧ some k_ ≠ (.slice Ao36 l0.length co36 : Value).ownBlock) (fun _ => False) rfl rfl ?aO ?aR (fun _ _ h => h) (fun _ h => h.elim) ?aF ?aB ?aS ?aL ?_
        (case aR => exact zz21 HR173)
        (case aB => exact zz2)
        (case aF => exact (fun k_ hk => ⟨(.inr (Nat.le_trans (by first | exact HK.out.1 | exact (show Kept w _ (fun k_ => P0_ k_) from zz18).1) hk)), Kd.fresh' (Kd.R_lt (zz13 HO_0)) k_ hk⟩))
        (case aO => exact zz22 HO169)
        (case aS => exact zz23)
        (case aL => exact zz9 LMc31)
        intro v175 w42 ho hb hg hat
        rw [← Ny174.out] at ho
        replace HB := Aside0.mk hb
        replace HK := Aside0.mk (Kept.of_grown (S := (fun k_ => P0_ k_)) hg zz18 (fun k_ e_ => (HO169.out.1 k_ e_).1.1))
        replace HR173 := Aside0.mk (show Kd.C (Kd.int .i64) w42 Ao36 y170.length y170 from by rw [Ny170.out]; exact Kd.C_take (m := (x5_1 : Int).toNat) ((Kd.R_reads' (Kd.R_after (ok := (fun k_ => (P0_ k_ ∨ w.heap.size ≤ k_))) (zz13 HO_0) hg hat)).2.2) KL38.out)
        replace HR186 := Aside0.mk (show Kd.C (Kd.int .i64) w42 A39 y183.length y183 from by rw [Ny183.out, KA39.out]; exact Kd.C_drop (m := (x5_1 : Int).toNat) (c := co36) ((Kd.R_reads' (Kd.R_after (ok := (fun k_ => (P0_ k_ ∨ w.heap.size ≤ k_))) (zz13 HO_0) hg hat)).2.2) KL39.out ((Kd.R_reads' (Kd.R_after (ok := (fun k_ => (P0_ k_ ∨ w.heap.size ≤ k_))) (zz13 HO_0) hg hat)).2.1))
        replace HO_0 := Aside0.mk (Kd.R_after (ok := (fun k_ => (P0_ k_ ∨ w.heap.size ≤ k_))) (zz13 HO_0) hg hat)
        have HO176 := Aside0.mk ho
        clear HO169 ho hb hg hat
        refine hK.out _ _ trivial (fun hHeld => ?_)
        clear hK K
        refine nm 37 ?_
        refine on 6 (some 39) (bm 13 1919) (fun K hK => ?_)
        refine rls (Kd.int .i64) 3 39 ([a1] : List Int) [.int .i64 a1] ?hp ?_; (case hp => exact zz24)
        intro v178 w43 ho44 hb hg_ hnew_
        clear hg_ hnew_
        (first | rw [← Ny177.out] at ho44 | (simp only [Int.reduceToNat] at ho44; rw [← Ny177.out] at ho44))
        have HO179 := Aside0.mk (Kd.R_lower (Kd.R_new' (Kd.R_new' (Kd.R_newM (M := fun k_ => (P0_ k_ ∨ w.heap.size ≤ k_)) ho44 (by first | exact HK.out.1 | exact (show Kept w _ (fun k_ => P0_ k_) from zz18).1) (fun k_ h_ => .inr h_)) (Kd.R_lt (zz13 HO_0))) (Kd.R_lt (zz13 HO176))) (below_size zz2))
        replace HO_0 := Aside0.mk (Kd.R_elder' (zz13 HO_0) (Kd.R_base ho44) hb)
        replace HO176 := Aside0.mk (Kd.R_elder' (zz13 HO176) (Kd.R_base ho44) hb)
        replace HR173 := Aside0.mk (Kd.C_below (zz20 HR173) hb)
        replace HR186 := Aside0.mk (Kd.C_below (zz20 HR186) hb)
        replace HK := Aside0.mk (Kept.below (S := (fun k_ => P0_ k_)) zz18 hb)
        replace HB := Aside0.mk (below_step zz2 hb)
        clear hb ho44
        refine hK.out _ _ trivial (fun hHeld => ?_)
        clear hK K
        refine nm 39 ?_
        exact norm_ zz25 (hCont (v168, v175, v178) _ ⟨(zz26 HO176), (zz27 HO179), (zz28 HO_0), zz18, zz2⟩)
       ·skip
        refine rls (Kd.int .i64) 3 39 ([a1] : List Int) [.int .i64 a1] ?hp ?_; (case hp => exact zz24)
        intro v178 w42 ho43 hb hg_ hnew_
        clear hg_ hnew_
        (first | rw [← Ny177.out] at ho43 | (simp only [Int.reduceToNat] at ho43; rw [← Ny177.out] at ho43))
        have HO179 := Aside0.mk (Kd.R_lower (Kd.R_new' (Kd.R_new' (Kd.R_newM (M := fun k_ => (P0_ k_ ∨ w.heap.size ≤ k_)) ho43 (by first | exact HK.out.1 | exact (show Kept w _ (fun k_ => P0_ k_) from zz18).1) (fun k_ h_ => .inr h_)) (Kd.R_lt (zz13 HO_0))) (Kd.R_lt (zz13 HO169))) (below_size zz2))
        replace HO_0 := Aside0.mk (Kd.R_elder' (zz13 HO_0) (Kd.R_base ho43) hb)
        replace HO169 := Aside0.mk (Kd.R_elder' (zz13 HO169) (Kd.R_base ho43) hb)
        replace HR173 := Aside0.mk (Kd.C_below (zz20 HR173) hb)
        replace HR186 := Aside0.mk (Kd.C_below (zz20 HR186) hb)
        replace HK := Aside0.mk (Kept.below (S := (fun k_ => P0_ k_)) zz18 hb)
        replace HB := Aside0.mk (below_step zz2 hb)
        clear hb ho43
        refine hK.out _ _ trivial (fun hHeld => ?_)
        clear hK K
        refine nm 39 ?_
        refine on 4 (some 37) (bm 13 1919) (fun K hK => ?_)
        refine Kd.R_append_rows_step (Kd.int .i64) (w0 := w0) w0.heap.size (by rfl) (.tmp 33) (.tmp 36) 65 3 (.int .i64 0) 8 rfl Try.underlying65 info3 rfl (by decide) (by omega) v168 y167 y170 _ _ _ (fun k_ => (P0_ k_ ∨ w.heap.size ≤ k_) ∧ some k_ ≠ (.slice Ao36 l0.length co36 : Value).ownBlock ∧ some k_ ≠ (v178 : Value).ownBlock) (fun _ => False) rfl rfl ?aO ?aR (fun _ _ h => h) (fun _ h => h.elim) ?aF ?aB ?aS ?aL ?_
        (case aR => exact zz21 HR173)
        (case aB => exact zz2)
        (case aF => exact (fun k_ hk => ⟨(.inr (Nat.le_trans (by first | exact HK.out.1 | exact (show Kept w _ (fun k_ => P0_ k_) from zz18).1) hk)), Kd.fresh' (Kd.R_lt (zz13 HO_0)) k_ hk, Kd.fresh' (Kd.R_lt (zz13 HO179)) k_ hk⟩))
        (case aO => exact zz29 HO169)
        (case aS => exact zz23)
        (case aL => exact zz9 LMc31)
        intro v175 w44 ho hb hg hat
        rw [← Ny174.out] at ho
        replace HO179 := Aside0.mk (Kd.R_after (ok := (fun k_ => (P0_ k_ ∨ w.heap.size ≤ k_) ∧ some k_ ≠ (.slice Ao36 l0.length co36 : Value).ownBlock)) (zz30 HO179) hg hat)
        replace HB := Aside0.mk hb
        replace HK := Aside0.mk (Kept.of_grown (S := (fun k_ => P0_ k_)) hg zz18 (fun k_ e_ => (HO169.out.1 k_ e_).1.1.1))
        replace HR173 := Aside0.mk (show Kd.C (Kd.int .i64) w44 Ao36 y170.length y170 from by rw [Ny170.out]; exact Kd.C_take (m := (x5_1 : Int).toNat) ((Kd.R_reads' (Kd.R_after (ok := (fun k_ => (P0_ k_ ∨ w.heap.size ≤ k_) ∧ some k_ ≠ (v178 : Value).ownBlock)) (zz31 HO_0) hg hat)).2.2) KL38.out)
        replace HR186 := Aside0.mk (show Kd.C (Kd.int .i64) w44 A39 y183.length y183 from by rw [Ny183.out, KA39.out]; exact Kd.C_drop (m := (x5_1 : Int).toNat) (c := co36) ((Kd.R_reads' (Kd.R_after (ok := (fun k_ => (P0_ k_ ∨ w.heap.size ≤ k_) ∧ some k_ ≠ (v178 : Value).ownBlock)) (zz31 HO_0) hg hat)).2.2) KL39.out ((Kd.R_reads' (Kd.R_after (ok := (fun k_ => (P0_ k_ ∨ w.heap.size ≤ k_) ∧ some k_ ≠ (v178 : Value).ownBlock)) (zz31 HO_0) hg hat)).2.1))
        replace HO_0 := Aside0.mk (Kd.R_after (ok := (fun k_ => (P0_ k_ ∨ w.heap.size ≤ k_) ∧ some k_ ≠ (v178 : Value).ownBlock)) (zz31 HO_0) hg hat)
        have HO176 := Aside0.mk ho
        clear HO169 ho hb hg hat
        refine hK.out _ _ trivial (fun hHeld => ?_)
        clear hK K
        refine nm 37 ?_
        exact norm_ zz25 (hCont (v168, v175, v178) _ ⟨(zz32 HO176), (zz26 HO179), (zz26 HO_0), zz18, zz2⟩)
      ·skip
       refine rls (Kd.int .i64) 3 39 ([a1] : List Int) [.int .i64 a1] ?hp ?_; (case hp => exact zz24)
       intro v178 w40 ho41 hb hg_ hnew_
       clear hg_ hnew_
       (first | rw [← Ny177.out] at ho41 | (simp only [Int.reduceToNat] at ho41; rw [← Ny177.out] at ho41))
       have HO179 := Aside0.mk (Kd.R_lower (Kd.R_new' (Kd.R_newM (M := fun k_ => (P0_ k_ ∨ w.heap.size ≤ k_)) ho41 (by first | exact HK.out.1 | exact (show Kept w _ (fun k_ => P0_ k_) from zz18).1) (fun k_ h_ => .inr h_)) (Kd.R_lt (zz13 HO_0))) (below_size zz2))
       replace HO_0 := Aside0.mk (Kd.R_elder' (zz13 HO_0) (Kd.R_base ho41) hb)
       replace HR173 := Aside0.mk (Kd.C_below (zz20 HR173) hb)
       replace HR186 := Aside0.mk (Kd.C_below (zz20 HR186) hb)
       replace HK := Aside0.mk (Kept.below (S := (fun k_ => P0_ k_)) zz18 hb)
       replace HB := Aside0.mk (below_step zz2 hb)
       clear hb ho41
       refine hK.out _ _ trivial (fun hHeld => ?_)
       clear hK K
       refine nm 39 ?_
       refine on 0 (some 33) (bm 13 1903) (fun K hK => ?_)
       refine rls (Kd.int .i64) 3 33 ([] : List Int) [] ?hp ?_; (case hp => exact zz12)
       intro v168 w42 ho43 hb hg_ hnew_
       clear hg_ hnew_
       (first | rw [← Ny167.out] at ho43 | (simp only [Int.reduceToNat] at ho43; rw [← Ny167.out] at ho43))
       have HO169 := Aside0.mk (Kd.R_lower (Kd.R_new' (Kd.R_new' (Kd.R_newM (M := fun k_ => (P0_ k_ ∨ w.heap.size ≤ k_)) ho43 (by first | exact HK.out.1 | exact (show Kept w _ (fun k_ => P0_ k_) from zz18).1) (fun k_ h_ => .inr h_)) (Kd.R_lt (zz13 HO_0))) (Kd.R_lt (zz13 HO179))) (below_size zz2))
       replace HO_0 := Aside0.mk (Kd.R_elder' (zz13 HO_0) (Kd.R_base ho43) hb)
       replace HO179 := Aside0.mk (Kd.R_elder' (zz13 HO179) (Kd.R_base ho43) hb)
       replace HR173 := Aside0.mk (Kd.C_below (zz20 HR173) hb)
       replace HR186 := Aside0.mk (Kd.C_below (zz20 HR186) hb)
       replace HK := Aside0.mk (Kept.below (S := (fun k_ => P0_ k_)) zz18 hb)
       replace HB := Aside0.mk (below_step zz2 hb)
       clear hb ho43
       refine hK.out _ _ trivial (fun hHeld => ?_)
       clear hK K
       refine nm 33 ?_
       refine on 4 (some 37) (bm 13 1919) (fun K hK => ?_)
       refine Kd.R_append_rows_step (Kd.int .i64) (w0 := w0) w0.heap.size (by rfl) (.tmp 33) (.tmp 36) 65 3 (.int .i64 0) 8 rfl Try.underlying65 info3 rfl (by decide) (by omega) v168 y167 y170 _ _ _ (fun k_ => (P0_ k_ ∨ w.heap.size ≤ k_) ∧ some k_ ≠ (.slice Ao36 l0.length co36 : Value).ownBlock ∧ some k_ ≠ (v178 : Value).ownBlock) (fun _ => False) rfl rfl ?aO ?aR (fun _ _ h => h) (fun _ h => h.elim) ?aF ?aB ?aS ?aL ?_
       (case aR => exact zz21 HR173)
       (case aB => exact zz2)
       (case aF => exact (fun k_ hk => ⟨(.inr (Nat.le_trans (by first | exact HK.out.1 | exact (show Kept w _ (fun k_ => P0_ k_) from zz18).1) hk)), Kd.fresh' (Kd.R_lt (zz13 HO_0)) k_ hk, Kd.fresh' (Kd.R_lt (zz13 HO179)) k_ hk⟩))
       (case aO => exact zz29 HO169)
       (case aS => exact zz23)
       (case aL => exact zz9 LMc31)
       intro v175 w44 ho hb hg hat
       rw [← Ny174.out] at ho
       replace HO179 := Aside0.mk (Kd.R_after (ok := (fun k_ => (P0_ k_ ∨ w.heap.size ≤ k_) ∧ some k_ ≠ (.slice Ao36 l0.length co36 : Value).ownBlock)) (zz30 HO179) hg hat)
       replace HB := Aside0.mk hb
       replace HK := Aside0.mk (Kept.of_grown (S := (fun k_ => P0_ k_)) hg zz18 (fun k_ e_ => (HO169.out.1 k_ e_).1.1.1))
       replace HR173 := Aside0.mk (show Kd.C (Kd.int .i64) w44 Ao36 y170.length y170 from by rw [Ny170.out]; exact Kd.C_take (m := (x5_1 : Int).toNat) ((Kd.R_reads' (Kd.R_after (ok := (fun k_ => (P0_ k_ ∨ w.heap.size ≤ k_) ∧ some k_ ≠ (v178 : Value).ownBlock)) (zz13 HO_0) hg hat)).2.2) KL38.out)
       replace HR186 := Aside0.mk (show Kd.C (Kd.int .i64) w44 A39 y183.length y183 from by rw [Ny183.out, KA39.out]; exact Kd.C_drop (m := (x5_1 : Int).toNat) (c := co36) ((Kd.R_reads' (Kd.R_after (ok := (fun k_ => (P0_ k_ ∨ w.heap.size ≤ k_) ∧ some k_ ≠ (v178 : Value).ownBlock)) (zz13 HO_0) hg hat)).2.2) KL39.out ((Kd.R_reads' (Kd.R_after (ok := (fun k_ => (P0_ k_ ∨ w.heap.size ≤ k_) ∧ some k_ ≠ (v178 : Value).ownBlock)) (zz13 HO_0) hg hat)).2.1))
       replace HO_0 := Aside0.mk (Kd.R_after (ok := (fun k_ => (P0_ k_ ∨ w.heap.size ≤ k_) ∧ some k_ ≠ (v178 : Value).ownBlock)) (zz13 HO_0) hg hat)
       have HO176 := Aside0.mk ho
       clear HO169 ho hb hg hat
       refine hK.out _ _ trivial (fun hHeld => ?_)
       clear hK K
       refine nm 37 ?_
       exact norm_ zz25 (hCont (v168, v175, v178) _ ⟨(zz32 HO176), (zz26 HO179), (zz26 HO_0), zz18, zz2⟩)
     rintro ⟨v168, v175, v178⟩ w45 ⟨h0_, h1_, h2_, h3_, h4_⟩
     have HO176 : Aside0 (Kd.R (Kd.int .i64) 3 w45 w0.heap.size (fun k_ => (P0_ k_ ∨ w.heap.size ≤ k_) ∧ some k_ ≠ (v178 : Value).ownBlock ∧ some k_ ≠ (.slice Ao36 l0.length co36 : Value).ownBlock) v175 y174) := ⟨h0_⟩
     have HO179 : Aside0 (Kd.R (Kd.int .i64) 3 w45 w0.heap.size (fun k_ => (P0_ k_ ∨ w.heap.size ≤ k_) ∧ some k_ ≠ (v175 : Value).ownBlock ∧ some k_ ≠ (.slice Ao36 l0.length co36 : Value).ownBlock) v178 y177) := ⟨h1_⟩
     replace HO_0 : Aside0 (Kd.R (Kd.int .i64) 3 w45 w0.heap.size (fun k_ => (P0_ k_ ∨ w.heap.size ≤ k_) ∧ some k_ ≠ (v175 : Value).ownBlock ∧ some k_ ≠ (v178 : Value).ownBlock) (.slice Ao36 l0.length co36) l0) := ⟨h2_⟩
     replace HK : Aside0 (Kept w w45 (fun k_ => P0_ k_)) := ⟨h3_⟩
     replace HB : Aside0 (Below w0.heap.size w0 w45) := ⟨h4_⟩
     clear h0_ h1_ h2_ h3_ h4_
     have hHeld := trivial
     have HR173 := Aside0.mk (show Kd.C (Kd.int .i64) w45 Ao36 y170.length y170 from by rw [Ny170.out]; exact Kd.C_take (m := (x5_1 : Int).toNat) ((Kd.R_reads' HO_0.out).2.2) KL38.out)
     have HR186 := Aside0.mk (show Kd.C (Kd.int .i64) w45 A39 y183.length y183 from by rw [Ny183.out, KA39.out]; exact Kd.C_drop (m := (x5_1 : Int).toNat) (c := co36) ((Kd.R_reads' HO_0.out).2.2) KL39.out ((Kd.R_reads' HO_0.out).2.1))
     obtain ⟨Ao47, co47, eo47⟩ := Kd.R_slice HO179.out
     (first | subst eo47 | (injection eo47 with f1_ f2_ f3_; have f4_ := f1_.symm; have f5_ := f3_.symm; clear f1_ f2_ f3_; subst f4_; subst f5_))
     refine norm_ (a' := ?_) ?_ ?_
     rotate_left
     ·simp only [putAll, Act.put, List.setIfInBounds_toArray, List.set_cons_zero, List.set_cons_succ]
      rfl
     refine on 7 (some 40) (bm 13 2047) (fun K hK => ?_)
     refine Kd.R_append_rows_step (Kd.int .i64) (w0 := w0) w0.heap.size (by rfl) (.tmp 37) (.tmp 39) 65 3 (.int .i64 0) 8 rfl Try.underlying65 info3 rfl (by decide) (by omega) v175 y174 y177 _ _ _ (fun k_ => (P0_ k_ ∨ w.heap.size ≤ k_) ∧ some k_ ≠ (.slice Ao36 l0.length co36 : Value).ownBlock ∧ some k_ ≠ (.slice Ao47 y177.length co47 : Value).ownBlock) (fun _ => False) rfl rfl ?aO ?aR (fun _ _ h => h) (fun _ h => h.elim) ?aF ?aB ?aS ?aL ?_
     (case aR => exact zz33 HO179)
     (case aB => exact zz2)
     (case aF => exact (fun k_ hk => ⟨(.inr (Nat.le_trans (by first | exact HK.out.1 | exact (show Kept w _ (fun k_ => P0_ k_) from zz18).1) hk)), Kd.fresh' (Kd.R_lt (zz13 HO_0)) k_ hk, Kd.fresh' (Kd.R_lt (zz13 HO179)) k_ hk⟩))
     (case aO => exact zz32 HO176)
     (case aS => exact zz23)
     (case aL => exact zz9 LMc32)
     intro v181 w46 ho hb hg hat
     rw [← Ny180.out] at ho
     replace HO179 := Aside0.mk (Kd.R_after (ok := (fun k_ => (P0_ k_ ∨ w.heap.size ≤ k_) ∧ some k_ ≠ (.slice Ao36 l0.length co36 : Value).ownBlock)) (zz34 HO179) hg hat)
     replace HB := Aside0.mk hb
     replace HK := Aside0.mk (Kept.of_grown (S := (fun k_ => P0_ k_)) hg zz18 (fun k_ e_ => (HO176.out.1 k_ e_).1))
     replace HR173 := Aside0.mk (show Kd.C (Kd.int .i64) w46 Ao36 y170.length y170 from by rw [Ny170.out]; exact Kd.C_take (m := (x5_1 : Int).toNat) ((Kd.R_reads' (Kd.R_after (ok := (fun k_ => (P0_ k_ ∨ w.heap.size ≤ k_) ∧ some k_ ≠ (.slice Ao47 y177.length co47 : Value).ownBlock)) (zz34 HO_0) hg hat)).2.2) KL38.out)
     replace HR186 := Aside0.mk (show Kd.C (Kd.int .i64) w46 A39 y183.length y183 from by rw [Ny183.out, KA39.out]; exact Kd.C_drop (m := (x5_1 : Int).toNat) (c := co36) ((Kd.R_reads' (Kd.R_after (ok := (fun k_ => (P0_ k_ ∨ w.heap.size ≤ k_) ∧ some k_ ≠ (.slice Ao47 y177.length co47 : Value).ownBlock)) (zz34 HO_0) hg hat)).2.2) KL39.out ((Kd.R_reads' (Kd.R_after (ok := (fun k_ => (P0_ k_ ∨ w.heap.size ≤ k_) ∧ some k_ ≠ (.slice Ao47 y177.length co47 : Value).ownBlock)) (zz34 HO_0) hg hat)).2.1))
     replace HO_0 := Aside0.mk (Kd.R_after (ok := (fun k_ => (P0_ k_ ∨ w.heap.size ≤ k_) ∧ some k_ ≠ (.slice Ao47 y177.length co47 : Value).ownBlock)) (zz34 HO_0) hg hat)
     have HO182 := Aside0.mk ho
     clear HO176 ho hb hg hat
     refine hK.out _ _ trivial (fun hHeld => ?_)
     clear hK K
     refine nm 40 ?_
     refine on 11 (some 44) (bm 13 4095) (fun K hK => ?_)
     refine Kd.R_append_rows_step (Kd.int .i64) (w0 := w0) w0.heap.size (by rfl) (.tmp 40) (.tmp 43) 65 3 (.int .i64 0) 8 rfl Try.underlying65 info3 rfl (by decide) (by omega) v181 y180 y183 _ _ _ (fun k_ => (P0_ k_ ∨ w.heap.size ≤ k_) ∧ some k_ ≠ (.slice Ao36 l0.length co36 : Value).ownBlock ∧ some k_ ≠ (.slice Ao47 y177.length co47 : Value).ownBlock) (fun _ => False) rfl rfl ?aO ?aR (fun _ _ h => h) (fun _ h => h.elim) ?aF ?aB ?aS ?aL ?_
     (case aR => exact zz21 HR186)
     (case aB => exact zz2)
     (case aF => exact (fun k_ hk => ⟨(.inr (Nat.le_trans (by first | exact HK.out.1 | exact (show Kept w _ (fun k_ => P0_ k_) from zz18).1) hk)), Kd.fresh' (Kd.R_lt (zz13 HO_0)) k_ hk, Kd.fresh' (Kd.R_lt (zz13 HO179)) k_ hk⟩))
     (case aO => exact zz13 HO182)
     (case aS => exact zz23)
     (case aL => exact zz9 LMc35)
     intro v188 w48 ho hb hg hat
     rw [← Ny187.out] at ho
     replace HO179 := Aside0.mk (Kd.R_after (ok := (fun k_ => (P0_ k_ ∨ w.heap.size ≤ k_) ∧ some k_ ≠ (.slice Ao36 l0.length co36 : Value).ownBlock)) (zz13 HO179) hg hat)
     replace HB := Aside0.mk hb
     replace HK := Aside0.mk (Kept.of_grown (S := (fun k_ => P0_ k_)) hg zz18 (fun k_ e_ => (HO182.out.1 k_ e_).1))
     replace HR173 := Aside0.mk (show Kd.C (Kd.int .i64) w48 Ao36 y170.length y170 from by rw [Ny170.out]; exact Kd.C_take (m := (x5_1 : Int).toNat) ((Kd.R_reads' (Kd.R_after (ok := (fun k_ => (P0_ k_ ∨ w.heap.size ≤ k_) ∧ some k_ ≠ (.slice Ao47 y177.length co47 : Value).ownBlock)) (zz13 HO_0) hg hat)).2.2) KL38.out)
     replace HR186 := Aside0.mk (show Kd.C (Kd.int .i64) w48 A39 y183.length y183 from by rw [Ny183.out, KA39.out]; exact Kd.C_drop (m := (x5_1 : Int).toNat) (c := co36) ((Kd.R_reads' (Kd.R_after (ok := (fun k_ => (P0_ k_ ∨ w.heap.size ≤ k_) ∧ some k_ ≠ (.slice Ao47 y177.length co47 : Value).ownBlock)) (zz13 HO_0) hg hat)).2.2) KL39.out ((Kd.R_reads' (Kd.R_after (ok := (fun k_ => (P0_ k_ ∨ w.heap.size ≤ k_) ∧ some k_ ≠ (.slice Ao47 y177.length co47 : Value).ownBlock)) (zz13 HO_0) hg hat)).2.1))
     replace HO_0 := Aside0.mk (Kd.R_after (ok := (fun k_ => (P0_ k_ ∨ w.heap.size ≤ k_) ∧ some k_ ≠ (.slice Ao47 y177.length co47 : Value).ownBlock)) (zz13 HO_0) hg hat)
     have HO189 := Aside0.mk ho
     clear HO182 ho hb hg hat
     refine hK.out _ _ trivial (fun hHeld => ?_)
     clear hK K
     refine nm 44 ?_
     refine pu 12 4 (bm 13 8191) ?_
     refine done_ (done_of HT_.out (by kernel_rfl)) ?_
     try go_wp2
     go_ret
     exact ⟨_, zz6, zz35 HO189, zz2, zz18⟩
    ·rw [if_neg c29] at H
     exact absurd H (by simp)

end Go.Proofs.Ythkjkmgbdahggaa.PW
