/- A text printed by this session's wip/myprint.py over the kit's print: contracts of functions of the given program, each at what its Lean function says. -/
import Derived.Test.YthkjkmgbdahggaaPLx0
import Derived.Test.YthkjkmgbdahggaaPLx7
import Derived.Test.YthkjkmgbdahggaaPLx8
namespace Go.Proofs.Ythkjkmgbdahggaa.PL
open Go.RowKit Go.Proofs.YthkjkmgbdahggaaW.PrintWords Go.Proofs.YthkjkmgbdahggaaW.PrintLast Go.Proofs.YthkjkmgbdahggaaW.PrintMore Go.Proofs.Ythkjkmgbdahggaa.Sq
attribute [local go_sem] max2_int min2_int max_two min_two max_three min_three max_four min_four   -- for this text's walks alone
set_option linter.unusedVariables false
set_option linter.unusedSimpArgs false
mutual
def spec_l12Blocks.l0 : Nat → List (S40) → Int → List Int → Int → Option ((List (S40)) × Int)
 | 0, _, _, _, _ => none
 | k + 1, x3, x4, x1000, x1001 => if x4 > 0 then ((spec_l12Block.f k x1000 x1001).bind fun bt246 => (if x3.length < 8796093022208 then (spec_l12Blocks.l0 k (x3 ++ [(⟨bt246.1, bt246.2.1⟩ : S40)]) (wrap64 (x4 - 1)) x1000 bt246.2.2) else (none))) else ((spec_l1Rd_pick.f k x1000 x1001 20).bind fun bt252 => (if bt252.1 = 0 then (spec_l12Blocks.l1 k x3 x1000 bt252.2) else (some (x3, bt252.2))))
def spec_l12Blocks.l1 : Nat → List (S40) → List Int → Int → Option ((List (S40)) × Int)
 | 0, _, _, _ => none
 | k + 1, x3, x1000, x1001 => (spec_l1Rd_pick.f k x1000 x1001 2).bind fun bt254 => (if (x3.length : Int) < (wrap64 (64 + bt254.1)) then (if x3.length < 8796093022208 then (spec_l12Blocks.l1 k (x3 ++ [(⟨wrap64 (2 * (x3.length : Int)), 32⟩ : S40)]) x1000 bt254.2) else (none)) else (some (x3, bt254.2)))
end
def spec_l12Blocks.f (k : Nat) (s0_0 : List Int) (s0_1 : Int) : Option ((List (S40)) × Int) := (spec_l1Rd_pick.f k s0_0 s0_1 6).bind fun bt244 => (spec_l12Blocks.l0 k (([] : List (S40))) bt244.1 s0_0 bt244.2)
set_option maxHeartbeats 8000000 in
set_option maxRecDepth 100000 in
theorem spec_l12Blocks.calls (k : Nat) (g : Nat) (s0_0 : List Int) (s0_1 : Int) (r1 : List (S40)) (r2 : Int) (w0 w : World) (hI : IsS103 w0 w g s0_0 s0_1) (hB : Below w0.heap.size w0 w) (h : spec_l12Blocks.f k s0_0 s0_1 = some (r1, r2)) :
  Calls Try.prog 62 #[.pointer (some ⟨g, 0, none⟩)] w fun e w' => ∃ v0_ : Value, e = .returned (v0_) ∧ Kd.R k40 40 w' w.heap.size (fun _ => True) v0_ r1 ∧ IsS103 w0 w' g s0_0 r2 ∧ Below w0.heap.size w0 w' ∧ KeepBut w w' g none := by
 have hu40 := Try.underlying40
 have HI0 := Aside0.mk hI
 have HK := Aside0.mk (KeepBut.refl w g none)
 have HL := Aside0.mk hB.size
 clear hI
 have HW0 := Aside0.mk hB.size
 have HB := Aside0.mk hB
 clear hB
 have H : ((spec_l1Rd_pick.f k s0_0 s0_1 6).bind fun bt244 => (spec_l12Blocks.l0 k (([] : List (S40))) bt244.1 s0_0 bt244.2)) = some (r1, r2) := h
 clear h
 obtain ⟨y241, hy241⟩ : ∃ y_ : List (S40), y_ = (([] : List (S40))) := ⟨_, rfl⟩
 replace H : ((spec_l1Rd_pick.f k s0_0 s0_1 6).bind fun bt244 => (spec_l12Blocks.l0 k y241 bt244.1 s0_0 bt244.2)) = some (r1, r2) := by first | (rw [hy241]; with_reducible exact H) | (have H2_ := (Option.bind_some _ _).symm.trans H; rw [hy241]; with_reducible exact H2_) | (have H2_ := (Option.bind_some _ _).symm.trans H; with_reducible exact H2_) | with_reducible exact H | (rw [hy241]; exact H) | exact H
 have Ny241 := Aside0.mk hy241
 clear hy241
 replace H := bd H
 obtain ⟨⟨t244, t245⟩, A2, H⟩ := H
 replace H : (spec_l12Blocks.l0 k y241 t244 s0_0 t245) = some (r1, r2) := H
 have H' := Aside0.mk H
 clear H
 go_enter Try.func62, Try.ntmps62
 go_wp2_with (first | (refine gt 5 ?_; refine rl k40 40 5 ([] : List (S40)) [] ?hp ?_; (case hp => exact zz34); intro v242 w3 ho4 hb hg_ hnew_; clear hg_ hnew_; (first | rw [← Ny241.out] at ho4 | (simp only [Int.reduceToNat] at ho4; rw [← Ny241.out] at ho4)); have HO243 := Aside0.mk (Kd.R_lower ho4 (keep_size (w := w) (g := g) (row := none) zz28)); replace HK := Aside0.mk (KeepBut.trans zz28 (KeepBut.of_below hb g none) (.inl rfl)); replace HB := Aside0.mk (below_step (zz29 HI0) hb); replace HI0 := Aside0.mk (IsS103.below (zz27 HI0) hb); clear hb ho4) | (refine gc (some 7) Try.func44 #[.pointer (some ⟨g, 0, none⟩), .int .i64 6] ?_; (with_reducible refine (spec_l1Rd_pick.calls k g s0_0 s0_1 6 t244 t245 w0 _ ?side1 ?side2 A2.out).mono ?_); (case side1 => exact zz27 HI0); (case side2 => exact zz29 HI0); rintro e w5 ⟨rfl, hi, hb, hk⟩; refine ⟨_, rfl, ?_⟩; replace HO243 := Aside0.mk (Kd.R_mono (Kd.R_keep (IsS103.apart (show IsS103 w0 _ g s0_0 s0_1 from zz27 HI0) (zz12 HO243) (by decide)) hk (fun _ h => h.2)) (fun _ h => h.1)); replace HK := Aside0.mk (KeepBut.trans zz28 hk (.inl rfl)); replace HB := Aside0.mk hb; replace HI0 := Aside0.mk hi; clear hb hk hi))
 go_loopg [3, 4] k (fun kq v3 v4 w' => ∃ (x3_1 : List (S40)) (x4_1 : Int) (x1001_1 : Int), v4 = .int .i64 x4_1 ∧ Aside0 (spec_l12Blocks.l0 kq x3_1 x4_1 s0_0 x1001_1 = some (r1, r2)) ∧ Aside0 (kq ≤ k) ∧ Aside0 (Kd.R k40 40 w' w.heap.size (fun _ => True) v3 x3_1) ∧ Aside0 (IsS103 w0 w' g s0_0 x1001_1) ∧ Aside0 (KeepBut w w' g none) ∧ Aside0 (Below w0.heap.size w0 w'))
 case atStart => exact ⟨(y241), (t244), (t245), zz1, H', ⟨Nat.le_refl _⟩, ⟨zz12 HO243⟩, ⟨zz27 HI0⟩, ⟨zz28⟩, ⟨zz29 HI0⟩⟩
 case round =>
  clear H'
  try clear p2
  try clear c4
  obtain ⟨x3_1, x4_1, x1001_1, rfl, HA, HK1, HO_3, HI0, HK, HB⟩ := hrel
  cases gk with
  | zero => exact absurd HA.out (by simp [spec_l12Blocks.l0])
  | succ k1 =>
   have H := HA.out
   clear HA
   simp only [spec_l12Blocks.l0] at H
   replace H := ic H
   rcases H with ⟨c6b0, H⟩ | ⟨c6b0, H⟩
   ·replace H := Option.bind_eq_some_iff.mp H
    obtain ⟨⟨t246, t247, t248⟩, A70, H⟩ := H
    replace H : (if x3_1.length < 8796093022208 then (spec_l12Blocks.l0 k1 (x3_1 ++ [(⟨t246, t247⟩ : S40)]) (wrap64 (x4_1 - 1)) s0_0 t248) else (none)) = some (r1, r2) := H
    have A7 := Aside0.mk A70
    clear A70
    replace H := gp H
    obtain ⟨c8, H⟩ := H
    have LMc8 := Aside0.mk c8
    clear c8
    obtain ⟨y249, hy249⟩ : ∃ y_ : List (S40), y_ = (x3_1 ++ [(⟨t246, t247⟩ : S40)]) := ⟨_, rfl⟩
    replace H : (spec_l12Blocks.l0 k1 y249 (wrap64 (x4_1 - 1)) s0_0 t248) = some (r1, r2) := by first | (rw [hy249]; with_reducible exact H) | (have H2_ := (Option.bind_some _ _).symm.trans H; rw [hy249]; with_reducible exact H2_) | (have H2_ := (Option.bind_some _ _).symm.trans H; with_reducible exact H2_) | with_reducible exact H | (rw [hy249]; exact H) | exact H
    have Ny249 := Aside0.mk hy249
    clear hy249
    have H' := Aside0.mk H
    clear H
    go_wp2_with (first | (refine gc (some 14) Try.func93 #[.pointer (some ⟨g, 0, none⟩)] ?_; (with_reducible refine (spec_l12Block.calls k1 g s0_0 x1001_1 t246 t247 t248 w0 _ ?side1 ?side2 A7.out).mono ?_); (case side1 => exact zz27 HI0); (case side2 => exact zz29 HI0); rintro e w9 ⟨rfl, hi, hb, hk⟩; refine ⟨_, rfl, ?_⟩; replace HO_3 := Aside0.mk (Kd.R_mono (Kd.R_keep (IsS103.apart (show IsS103 w0 _ g s0_0 x1001_1 from zz27 HI0) (zz12 HO_3) (by decide)) hk (fun _ h => h.2)) (fun _ h => h.1)); replace HK := Aside0.mk (KeepBut.trans zz28 hk (.inl rfl)); replace HB := Aside0.mk hb; replace HI0 := Aside0.mk hi; clear hb hk hi) | ((with_reducible refine gate_builtin (b := .append) (xs := #[.tmp 12, .tmp 15]) rfl ?_); at_builtin; refine Kd.R_append k40 w.heap.size rfl (.tmp 12) (.tmp 15) 25 40 (.agg #[(.int .i64 0), (.int .i64 0)]) 16 rfl Try.underlying25 info40 rfl (by decide) (by omega) u3 x3_1 (⟨t246, t247⟩ : S40) [.int .i64 t246, .int .i64 t247] (fun _ => True) (fun _ => False) rfl rfl ?aP (fun _ hk => hk.elim) ?aF ?aO (Below.refl _ _) ?aS ?aL ?_; (case aP => exact k40_mkM _ _ _ (⟨t246, t247⟩ : S40)); (case aF => exact zz13); (case aO => exact zz12 HO_3); (case aS => exact zz35); (case aL => exact zz3 LMc8); intro v250 w10 ho hb hg hat; rw [← Ny249.out] at ho; replace HB := Aside0.mk (below_weaken (zz29 HI0) HL.out hb); replace HI0 := Aside0.mk (IsS103.grown (zz27 HI0) hg (IsS103.own_ne HI0.out HO_3.out (by decide))); replace HK := Aside0.mk (KeepBut.trans zz28 (KeepBut.of_grown hg g) (Kd.R_base2 HO_3.out)); have HO251 := Aside0.mk ho; clear HO_3 ho hb hg hat))
    go_roundg k1
    case measure => have := HK1.out; omega
    case rel => exact ⟨(y249), (wrap64 (x4_1 - 1)), (t248), zz1, H', ⟨zz3 HK1⟩, ⟨zz12 HO251⟩, ⟨zz27 HI0⟩, ⟨zz28⟩, ⟨zz29 HI0⟩⟩
   ·replace H := Option.bind_eq_some_iff.mp H
    obtain ⟨⟨t252, t253⟩, A110, H⟩ := H
    replace H : (if t252 = 0 then (spec_l12Blocks.l1 k1 x3_1 s0_0 t253) else (some (x3_1, t253))) = some (r1, r2) := H
    have A11 := Aside0.mk A110
    clear A110
    by_cases c12 : t252 = 0
    ·rw [if_pos c12] at H
     have c12b0 : (t252 == 0) = true := beq_iff_eq.mpr c12
     have c12b1 : (t252 != 0) = false := bne_eq_false_iff_eq.mpr c12
     clear c12
     have H' := Aside0.mk H
     clear H
     go_wp2_with (first | (refine gc (some 18) Try.func44 #[.pointer (some ⟨g, 0, none⟩), .int .i64 20] ?_; (with_reducible refine (spec_l1Rd_pick.calls k1 g s0_0 x1001_1 20 t252 t253 w0 _ ?side1 ?side2 A11.out).mono ?_); (case side1 => exact zz27 HI0); (case side2 => exact zz29 HI0); rintro e w13 ⟨rfl, hi, hb, hk⟩; refine ⟨_, rfl, ?_⟩; replace HO_3 := Aside0.mk (Kd.R_mono (Kd.R_keep (IsS103.apart (show IsS103 w0 _ g s0_0 x1001_1 from zz27 HI0) (zz12 HO_3) (by decide)) hk (fun _ h => h.2)) (fun _ h => h.1)); replace HK := Aside0.mk (KeepBut.trans zz28 hk (.inl rfl)); replace HB := Aside0.mk hb; replace HI0 := Aside0.mk hi; clear hb hk hi))
     go_loopg [3] k1 (fun kq v3 w' => ∃ (x3_2 : List (S40)) (x1001_2 : Int), Aside0 (spec_l12Blocks.l1 kq x3_2 s0_0 x1001_2 = some (r1, r2)) ∧ Aside0 (kq ≤ k1) ∧ Aside0 (Kd.R k40 40 w' w.heap.size (fun _ => True) v3 x3_2) ∧ Aside0 (IsS103 w0 w' g s0_0 x1001_2) ∧ Aside0 (KeepBut w w' g none) ∧ Aside0 (Below w0.heap.size w0 w'))
     case atStart => exact ⟨(x3_1), (t253), H', ⟨Nat.le_refl _⟩, ⟨zz12 HO_3⟩, ⟨zz27 HI0⟩, ⟨zz28⟩, ⟨zz29 HI0⟩⟩
     case round =>
      clear H'
      try clear c1
      try clear p2
      try clear c4
      try clear c6
      try clear c6b0
      try clear p6
      try clear c8
      try clear c9
      try clear c12
      try clear c12b0
      try clear c12b1
      try clear p2
      obtain ⟨x3_2, x1001_2, HA, HK2, HO_3, HI0, HK, HB⟩ := hrel
      cases gk with
      | zero => exact absurd HA.out (by simp [spec_l12Blocks.l1])
      | succ k2 =>
       have H := HA.out
       clear HA
       simp only [spec_l12Blocks.l1] at H
       replace H := bd H
       obtain ⟨⟨t254, t255⟩, A14, H⟩ := H
       replace H : (if (x3_2.length : Int) < (wrap64 (64 + t254)) then (if x3_2.length < 8796093022208 then (spec_l12Blocks.l1 k2 (x3_2 ++ [(⟨wrap64 (2 * (x3_2.length : Int)), 32⟩ : S40)]) s0_0 t255) else (none)) else (some (x3_2, t255))) = some (r1, r2) := H
       replace H := ic H
       rcases H with ⟨c15b0, H⟩ | ⟨c15b0, H⟩
       ·replace H := gp H
        obtain ⟨c16, H⟩ := H
        have LMc16 := Aside0.mk c16
        clear c16
        obtain ⟨y256, hy256⟩ : ∃ y_ : List (S40), y_ = (x3_2 ++ [(⟨wrap64 (2 * (x3_2.length : Int)), 32⟩ : S40)]) := ⟨_, rfl⟩
        replace H : (spec_l12Blocks.l1 k2 y256 s0_0 t255) = some (r1, r2) := by first | (rw [hy256]; with_reducible exact H) | (have H2_ := (Option.bind_some _ _).symm.trans H; rw [hy256]; with_reducible exact H2_) | (have H2_ := (Option.bind_some _ _).symm.trans H; with_reducible exact H2_) | with_reducible exact H | (rw [hy256]; exact H) | exact H
        have Ny256 := Aside0.mk hy256
        clear hy256
        have H' := Aside0.mk H
        clear H
        obtain ⟨Ao17, co17, eo17⟩ := Kd.R_slice HO_3.out
        subst eo17
        go_wp2_with (first | (refine gc (some 23) Try.func44 #[.pointer (some ⟨g, 0, none⟩), .int .i64 2] ?_; (with_reducible refine (spec_l1Rd_pick.calls k2 g s0_0 x1001_2 2 t254 t255 w0 _ ?side1 ?side2 A14.out).mono ?_); (case side1 => exact zz27 HI0); (case side2 => exact zz29 HI0); rintro e w18 ⟨rfl, hi, hb, hk⟩; refine ⟨_, rfl, ?_⟩; replace HO_3 := Aside0.mk (Kd.R_mono (Kd.R_keep (IsS103.apart (show IsS103 w0 _ g s0_0 x1001_2 from zz27 HI0) (zz12 HO_3) (by decide)) hk (fun _ h => h.2)) (fun _ h => h.1)); replace HK := Aside0.mk (KeepBut.trans zz28 hk (.inl rfl)); replace HB := Aside0.mk hb; replace HI0 := Aside0.mk hi; clear hb hk hi) | ((with_reducible refine gate_builtin (b := .append) (xs := #[.tmp 26, .tmp 31]) rfl ?_); at_builtin; refine Kd.R_append k40 w.heap.size rfl (.tmp 26) (.tmp 31) 25 40 (.agg #[(.int .i64 0), (.int .i64 0)]) 16 rfl Try.underlying25 info40 rfl (by decide) (by omega) (.slice Ao17 x3_2.length co17) x3_2 (⟨wrap64 (2 * (x3_2.length : Int)), 32⟩ : S40) [.int .i64 (wrap64 (2 * (x3_2.length : Int))), .int .i64 32] (fun _ => True) (fun _ => False) rfl rfl ?aP (fun _ hk => hk.elim) ?aF ?aO (Below.refl _ _) ?aS ?aL ?_; (case aP => exact k40_mkM _ _ _ (⟨wrap64 (2 * (x3_2.length : Int)), 32⟩ : S40)); (case aF => exact zz13); (case aO => exact zz12 HO_3); (case aS => exact zz35); (case aL => exact zz3 LMc16); intro v257 w19 ho hb hg hat; rw [← Ny256.out] at ho; replace HB := Aside0.mk (below_weaken (zz29 HI0) HL.out hb); replace HI0 := Aside0.mk (IsS103.grown (zz27 HI0) hg (IsS103.own_ne HI0.out HO_3.out (by decide))); replace HK := Aside0.mk (KeepBut.trans zz28 (KeepBut.of_grown hg g) (Kd.R_base2 HO_3.out)); have HO258 := Aside0.mk ho; clear HO_3 ho hb hg hat))
        go_roundg k2
        case measure => have := HK1.out; have := HK2.out; omega
        case rel => exact ⟨(y256), (t255), H', ⟨by have := HK1.out; have := HK2.out; omega⟩, ⟨zz12 HO258⟩, ⟨zz27 HI0⟩, ⟨zz28⟩, ⟨zz29 HI0⟩⟩
       ·simp only [Option.some.injEq, Prod.mk.injEq] at H
        obtain ⟨rfl, rfl⟩ := H
        obtain ⟨Ao20, co20, eo20⟩ := Kd.R_slice HO_3.out
        subst eo20
        go_wp2_with (first | (refine gc (some 23) Try.func44 #[.pointer (some ⟨g, 0, none⟩), .int .i64 2] ?_; (with_reducible refine (spec_l1Rd_pick.calls k2 g s0_0 x1001_2 2 t254 t255 w0 _ ?side1 ?side2 A14.out).mono ?_); (case side1 => exact zz27 HI0); (case side2 => exact zz29 HI0); rintro e w21 ⟨rfl, hi, hb, hk⟩; refine ⟨_, rfl, ?_⟩; replace HO_3 := Aside0.mk (Kd.R_mono (Kd.R_keep (IsS103.apart (show IsS103 w0 _ g s0_0 x1001_2 from zz27 HI0) (zz12 HO_3) (by decide)) hk (fun _ h => h.2)) (fun _ h => h.1)); replace HK := Aside0.mk (KeepBut.trans zz28 hk (.inl rfl)); replace HB := Aside0.mk hb; replace HI0 := Aside0.mk hi; clear hb hk hi))
        go_ret
        exact ⟨_, zz8, zz12 HO_3, zz27 HI0, zz29 HI0, zz28⟩
    ·rw [if_neg c12] at H
     have c12b0 : (t252 == 0) = false := beq_eq_false_iff_ne.mpr c12
     have c12b1 : (t252 != 0) = true := bne_iff_ne.mpr c12
     simp only [Option.some.injEq, Prod.mk.injEq] at H
     obtain ⟨rfl, rfl⟩ := H
     go_wp2_with (first | (refine gc (some 18) Try.func44 #[.pointer (some ⟨g, 0, none⟩), .int .i64 20] ?_; (with_reducible refine (spec_l1Rd_pick.calls k1 g s0_0 x1001_1 20 t252 t253 w0 _ ?side1 ?side2 A11.out).mono ?_); (case side1 => exact zz27 HI0); (case side2 => exact zz29 HI0); rintro e w22 ⟨rfl, hi, hb, hk⟩; refine ⟨_, rfl, ?_⟩; replace HO_3 := Aside0.mk (Kd.R_mono (Kd.R_keep (IsS103.apart (show IsS103 w0 _ g s0_0 x1001_1 from zz27 HI0) (zz12 HO_3) (by decide)) hk (fun _ h => h.2)) (fun _ h => h.1)); replace HK := Aside0.mk (KeepBut.trans zz28 hk (.inl rfl)); replace HB := Aside0.mk hb; replace HI0 := Aside0.mk hi; clear hb hk hi))
     go_ret
     exact ⟨_, zz8, zz12 HO_3, zz27 HI0, zz29 HI0, zz28⟩
def spec_l12AnyBlock.f (k : Nat) (s0_0 : List Int) (s0_1 : Int) : Option (Int × Int × Int) := (spec_l12Block.f k s0_0 s0_1).bind fun bt260 => ((spec_l1Rd_pick.f k s0_0 bt260.2.2 16).bind fun bt264 => (if bt264.1 = 0 then ((spec_l1Rd_one.f k s0_0 bt264.2 (([1, (-1), 256] : List Int))).bind fun bt269 => (some (wrap64 (bt260.1 + bt269.1), bt260.2.1, bt269.2))) else (if bt264.1 = 1 then ((spec_l1Rd_one.f k s0_0 bt264.2 (([(-1), 33, 0, 32] : List Int))).bind fun bt274 => (some (bt260.1, bt274.1, bt274.2))) else (some (bt260.1, bt260.2.1, bt264.2)))))
def spec_l12AnyBlock.T4 : Bool × List (List Nat × List Nat) := (true, [([], []), ([0], [0]), ([], []), ([], []), ([2, 3], [2, 3]), ([1, 4], [1, 4]), ([0, 1, 2, 3, 4, 5], []), ([6, 5, 4, 0, 1, 2, 3, 4, 5], [5, 6])])
def spec_l12AnyBlock.B4 : List Nat := [0, 1, 0, 0, 12, 31, 63, 127]
theorem spec_l12AnyBlock.tab4 : rtab .any (opsOf Try.f63 4) = spec_l12AnyBlock.T4 := by kernel_rfl
theorem spec_l12AnyBlock.bits4 : waitsOk spec_l12AnyBlock.T4.2 spec_l12AnyBlock.B4 = true := by kernel_rfl
set_option maxHeartbeats 8000000 in
set_option maxRecDepth 100000 in
theorem spec_l12AnyBlock.calls (k : Nat) (g : Nat) (s0_0 : List Int) (s0_1 : Int) (r1 : Int) (r2 : Int) (r3 : Int) (w0 w : World) (hI : IsS103 w0 w g s0_0 s0_1) (hB : Below w0.heap.size w0 w) (h : spec_l12AnyBlock.f k s0_0 s0_1 = some (r1, r2, r3)) :
  Calls Try.prog 63 #[.pointer (some ⟨g, 0, none⟩)] w fun e w' => e = .returned (.agg #[.int .i64 r1, .int .i64 r2]) ∧ IsS103 w0 w' g s0_0 r3 ∧ Below w0.heap.size w0 w' ∧ KeepBut w w' g none := by
 have hu40 := Try.underlying40
 have HI0 := Aside0.mk hI
 have HK := Aside0.mk (KeepBut.refl w g none)
 have HL := Aside0.mk hB.size
 clear hI
 have HW0 := Aside0.mk hB.size
 have HB := Aside0.mk hB
 clear hB
 have H : ((spec_l12Block.f k s0_0 s0_1).bind fun bt260 => ((spec_l1Rd_pick.f k s0_0 bt260.2.2 16).bind fun bt264 => (if bt264.1 = 0 then ((spec_l1Rd_one.f k s0_0 bt264.2 (([1, (-1), 256] : List Int))).bind fun bt269 => (some (wrap64 (bt260.1 + bt269.1), bt260.2.1, bt269.2))) else (if bt264.1 = 1 then ((spec_l1Rd_one.f k s0_0 bt264.2 (([(-1), 33, 0, 32] : List Int))).bind fun bt274 => (some (bt260.1, bt274.1, bt274.2))) else (some (bt260.1, bt260.2.1, bt264.2)))))) = some (r1, r2, r3) := h
 clear h
 replace H := bd H
 obtain ⟨⟨t260, t261, t262⟩, A2, H⟩ := H
 replace H : ((spec_l1Rd_pick.f k s0_0 t262 16).bind fun bt264 => (if bt264.1 = 0 then ((spec_l1Rd_one.f k s0_0 bt264.2 (([1, (-1), 256] : List Int))).bind fun bt269 => (some (wrap64 (t260 + bt269.1), t261, bt269.2))) else (if bt264.1 = 1 then ((spec_l1Rd_one.f k s0_0 bt264.2 (([(-1), 33, 0, 32] : List Int))).bind fun bt274 => (some (t260, bt274.1, bt274.2))) else (some (t260, t261, bt264.2))))) = some (r1, r2, r3) := H
 replace H := bd H
 obtain ⟨⟨t264, t265⟩, A3, H⟩ := H
 replace H : (if t264 = 0 then ((spec_l1Rd_one.f k s0_0 t265 (([1, (-1), 256] : List Int))).bind fun bt269 => (some (wrap64 (t260 + bt269.1), t261, bt269.2))) else (if t264 = 1 then ((spec_l1Rd_one.f k s0_0 t265 (([(-1), 33, 0, 32] : List Int))).bind fun bt274 => (some (t260, bt274.1, bt274.2))) else (some (t260, t261, t265)))) = some (r1, r2, r3) := H
 by_cases c4 : t264 = 0
 ·rw [if_pos c4] at H
  have c4b0 : (t264 == 0) = true := beq_iff_eq.mpr c4
  have c4b1 : (t264 != 0) = false := bne_eq_false_iff_eq.mpr c4
  clear c4
  obtain ⟨y266, hy266⟩ : ∃ y_ : List Int, y_ = (([1, (-1), 256] : List Int)) := ⟨_, rfl⟩
  replace H : ((spec_l1Rd_one.f k s0_0 t265 y266).bind fun bt269 => (some (wrap64 (t260 + bt269.1), t261, bt269.2))) = some (r1, r2, r3) := by first | (rw [hy266]; with_reducible exact H) | (have H2_ := (Option.bind_some _ _).symm.trans H; rw [hy266]; with_reducible exact H2_) | (have H2_ := (Option.bind_some _ _).symm.trans H; with_reducible exact H2_) | with_reducible exact H | (rw [hy266]; exact H) | exact H
  have Ny266 := Aside0.mk hy266
  clear hy266
  replace H := bd H
  obtain ⟨⟨t269, t270⟩, A5, H⟩ := H
  replace H : (some (wrap64 (t260 + t269), t261, t270)) = some (r1, r2, r3) := H
  simp only [Option.some.injEq, Prod.mk.injEq] at H
  obtain ⟨rfl, rfl, rfl⟩ := H
  go_enter Try.func63, Try.ntmps63
  try go_wp2_with (first | (refine be 2 #[.int .i64 0, .int .i64 0] 40 ?_; intro gb259 hg w6 hbox hb; replace HB := Aside0.mk (below_step (zz29 HI0) hb); have BK259 := Aside0.mk hbox; have GW259 := Aside0.mk (zz30 : w.heap.size ≤ gb259); have GE259 := Aside0.mk (Nat.le_trans HW0.out (zz30 : w.heap.size ≤ gb259) : w0.heap.size ≤ gb259); replace HK := Aside0.mk (KeepBut.trans zz28 (KeepBut.of_below hb g none) (.inl rfl)); have NB0_259 := Aside0.mk (by rw [hg]; exact Nat.ne_of_lt (IsS103.lt (show IsS103 w0 _ g s0_0 s0_1 from zz27 HI0)) : g ≠ gb259); have NB259_0 := Aside0.mk (by rw [hg]; exact Nat.ne_of_gt (IsS103.lt (show IsS103 w0 _ g s0_0 s0_1 from zz27 HI0)) : gb259 ≠ g); replace HI0 := Aside0.mk (IsS103.below (zz27 HI0) hb); clear hb hbox hg) | (refine gc (some 5) Try.func93 #[.pointer (some ⟨g, 0, none⟩)] ?_; (with_reducible refine (spec_l12Block.calls k g s0_0 s0_1 t260 t261 t262 w0 _ ?side1 ?side2 A2.out).mono ?_); (case side1 => exact zz31 HI0 NB0_259); (case side2 => exact zz32 HI0 GE259); rintro e w7 ⟨rfl, hi, hb, hk⟩; refine ⟨_, rfl, ?_⟩; replace BK259 := Aside0.mk (KeepBut.blk hk (g' := gb259) (o := .cells #[.int .i64 0, .int .i64 0] 40 (0, 0)) (zz7 BK259) NB259_0.out (by simp)); replace HK := Aside0.mk (KeepBut.trans (zz33 GW259) hk (.inl rfl)); replace HB := Aside0.mk hb; replace HI0 := Aside0.mk hi; clear hb hk hi) | (refine be 3 #[.int .i64 0, .int .i64 0] 40 ?_; intro gb263 hg w8 hbox hb; replace HB := Aside0.mk (below_step (zz32 HI0 GE259) hb); have BK263 := Aside0.mk hbox; have GW263 := Aside0.mk (zz36 GW259 : w.heap.size ≤ gb263); have GE263 := Aside0.mk (Nat.le_trans HW0.out (zz36 GW259 : w.heap.size ≤ gb263) : w0.heap.size ≤ gb263); replace HK := Aside0.mk (KeepBut.trans (zz33 GW259) (KeepBut.of_below hb g none) (.inl rfl)); have NB259_263 := Aside0.mk (by rw [hg]; exact Nat.ne_of_lt (blk_lt (g := gb259) (o := .cells #[.int .i64 0, .int .i64 0] 40 (0, 0)) (zz7 BK259)) : gb259 ≠ gb263); have NB263_259 := Aside0.mk (by rw [hg]; exact Nat.ne_of_gt (blk_lt (g := gb259) (o := .cells #[.int .i64 0, .int .i64 0] 40 (0, 0)) (zz7 BK259)) : gb263 ≠ gb259); replace BK259 := Aside0.mk (blk_below (g := gb259) (o := .cells #[.int .i64 0, .int .i64 0] 40 (0, 0)) (zz7 BK259) hb); have NB0_263 := Aside0.mk (by rw [hg]; exact Nat.ne_of_lt (IsS103.lt (show IsS103 w0 _ g s0_0 t262 from zz31 HI0 NB0_259)) : g ≠ gb263); have NB263_0 := Aside0.mk (by rw [hg]; exact Nat.ne_of_gt (IsS103.lt (show IsS103 w0 _ g s0_0 t262 from zz31 HI0 NB0_259)) : gb263 ≠ g); replace HI0 := Aside0.mk (IsS103.below (zz31 HI0 NB0_259) hb); clear hb hbox hg; have hnb9 := NB263_259.out; have hnc9 := NB259_263.out; have hnb10 := NB263_0.out; have hnc10 := NB0_263.out; have hcz11_0 : w8.cell? ⟨gb263, 0, none⟩ = some (.int .i64 0) := (blk_cell BK263.out 0).trans rfl; have hcz11_1 : w8.cell? ⟨gb263, 1, none⟩ = some (.int .i64 0) := (blk_cell BK263.out 1).trans rfl; have hfz11_0 := blk_frozen BK263.out 0; have hfz11_1 := blk_frozen BK263.out 1) | (refine gc (some 7) Try.func44 #[.pointer (some ⟨g, 0, none⟩), .int .i64 16] ?_; (with_reducible refine (spec_l1Rd_pick.calls k g s0_0 t262 16 t264 t265 w0 _ ?side1 ?side2 A3.out).mono ?_); (case side1 => exact zz37 HI0 NB0_259 NB0_263); (case side2 => exact zz38 HI0 GE259 GE263); rintro e w12 ⟨rfl, hi, hb, hk⟩; refine ⟨_, rfl, ?_⟩; replace BK259 := Aside0.mk (KeepBut.blk hk (g' := gb259) (o := .cells #[.int .i64 0, .int .i64 0] 40 (0, 0)) (zz39 NB259_263 BK259) NB259_0.out (by simp)); replace BK263 := Aside0.mk (KeepBut.blk hk (g' := gb263) (o := .cells #[.int .i64 t260, .int .i64 t261] 40 (0, 0)) (by (with_reducible repeat (first | refine blk_drewN ?_ _ | refine blk_drew ?_ | refine blk_alloc ?_ _)); refine blk_put (cs := #[.int .i64 t260, .int .i64 0]) ?_ 1 _ rfl; (with_reducible repeat (first | refine blk_drewN ?_ _ | refine blk_drew ?_ | refine blk_alloc ?_ _)); refine blk_put (cs := #[.int .i64 0, .int .i64 0]) ?_ 0 _ rfl; (with_reducible repeat (first | refine blk_drewN ?_ _ | refine blk_drew ?_ | refine blk_alloc ?_ _)); exact BK263.out) NB263_0.out (by simp)); replace HK := Aside0.mk (KeepBut.trans (zz40 GW259 GW263) hk (.inl rfl)); replace HB := Aside0.mk hb; replace HI0 := Aside0.mk hi; clear hb hk hi))
  replace BK259 := Aside0.mk (blk_drew BK259.out)
  replace BK263 := Aside0.mk (blk_drew BK263.out)
  replace HI0 := Aside0.mk (IsS103.drew HI0.out)
  replace HK := Aside0.mk (keep_drew HK.out)
  replace HB := Aside0.mk (below_drew1 HB.out)
  refine start_ (n := 8) (S := fun w' => w'.cell? ⟨gb263, 0, none⟩ = some (.int .i64 t260) ∧ w'.cell? ⟨gb263, 1, none⟩ = some (.int .i64 t261)) (ds := [7]) (bm 8 0) (by kernel_rfl) rfl rfl ⟨(blk_cell BK263.out 0).trans rfl, (blk_cell BK263.out 1).trans rfl⟩ (fun hHeld => ?_); refine with_tabW spec_l12AnyBlock.tab4 spec_l12AnyBlock.bits4 (fun HT_ HW_ => ?_)
  generalize w12.drew = w13 at BK259 BK263 HI0 HK HB hHeld ⊢
  refine pu 0 10 (bm 8 1) ?_
  refine pu 2 12 (bm 8 5) ?_
  refine tk 1 11 (bm 8 7) ?_
  refine on 3 (some 13) (bm 8 15) (fun K hK => ?_)
  refine rls (Kd.int .i64) 3 13 ([1, (-1), 256] : List Int) [.int .i64 1, .int .i64 (-1), .int .i64 256] ?hp ?_; (case hp => exact (ro (ro (ro (Reps.none _ _)))))
  intro v267 w14 ho15 hb hg_ hnew_
  clear hg_ hnew_
  (first | rw [← Ny266.out] at ho15 | (simp only [Int.reduceToNat] at ho15; rw [← Ny266.out] at ho15))
  have HO268 := Aside0.mk (Kd.R_lower ho15 (keep_size (w := w) (g := g) (row := none) (zz40 GW259 GW263)))
  replace BK259 := Aside0.mk (blk_below (g := gb259) (o := .cells #[.int .i64 0, .int .i64 0] 40 (0, 0)) (zz7 BK259) hb)
  replace BK263 := Aside0.mk (blk_below (g := gb263) (o := .cells #[.int .i64 t260, .int .i64 t261] 40 (0, 0)) (zz7 BK263) hb)
  replace HK := Aside0.mk (KeepBut.trans (zz40 GW259 GW263) (KeepBut.of_below hb g none) (.inl rfl))
  replace HB := Aside0.mk (below_step (zz38 HI0 GE259 GE263) hb)
  replace HI0 := Aside0.mk (IsS103.below (zz37 HI0 NB0_259 NB0_263) hb)
  clear hb ho15
  obtain ⟨Ao16, co16, eo16⟩ := Kd.R_slice HO268.out
  (first | subst eo16 | (injection eo16 with f1_ f2_ f3_; have f4_ := f1_.symm; have f5_ := f3_.symm; clear f1_ f2_ f3_; subst f4_; subst f5_))
  refine hK.out _ _ ⟨(blk_cell BK263.out 0).trans rfl, (blk_cell BK263.out 1).trans rfl⟩ (fun hHeld => ?_)
  clear hK K
  refine nm 13 ?_
  refine on 4 (some 14) (bm 8 31) (fun K hK => ?_)
  refine gs Try.func45 #[.pointer (some ⟨g, 0, none⟩), .slice Ao16 y266.length co16] ?_
  with_reducible refine (spec_l1Rd_one.calls k g s0_0 t265 _ _ y266 t269 t270 w0 _ ?side1 ?side2 ?side3 ?side4 ?side5 A5.out).mono ?_
  (case side1 => exact zz37 HI0 NB0_259 NB0_263)
  (case side2 => exact zz38 HI0 GE259 GE263)
  (case side3 => exact zz20 HO268)
  (case side4 => exact zz23 HO268)
  (case side5 => exact far_slice (IsS103.own_ne HI0.out HO268.out (by decide)))
  rintro e w17 ⟨rfl, hi, hb, hk⟩
  refine ⟨_, rfl, ?_⟩
  replace BK259 := Aside0.mk (KeepBut.blk hk (g' := gb259) (o := .cells #[.int .i64 0, .int .i64 0] 40 (0, 0)) (zz7 BK259) NB259_0.out (by simp))
  replace BK263 := Aside0.mk (KeepBut.blk hk (g' := gb263) (o := .cells #[.int .i64 t260, .int .i64 t261] 40 (0, 0)) (zz7 BK263) NB263_0.out (by simp))
  replace HO268 := Aside0.mk (Kd.R_mono (Kd.R_keep (IsS103.apart (show IsS103 w0 _ g s0_0 t265 from zz37 HI0 NB0_259 NB0_263) (zz12 HO268) (by decide)) hk (fun _ h => h.2)) (fun _ h => h.1))
  replace HK := Aside0.mk (KeepBut.trans (zz40 GW259 GW263) hk (.inl rfl))
  replace HB := Aside0.mk hb
  replace HI0 := Aside0.mk hi
  (try clear hb)
  (try clear hb2)
  (try clear hk)
  (try clear hi)
  refine hK.out _ _ ⟨(blk_cell BK263.out 0).trans rfl, (blk_cell BK263.out 1).trans rfl⟩ (fun hHeld => ?_)
  clear hK K
  refine nm 14 ?_
  refine pu 5 15 (bm 8 63) ?_
  refine pu 6 16 (bm 8 127) ?_
  refine last_ (i := 7) (N := none) (bm 8 255) rfl rfl (one_of HT_.out (by kernel_rfl)) (by decide) (fun K hK => ?_)
  have hs18 : w17.cell? ⟨gb263, 0, none⟩ = some (.int .i64 t260) := (blk_cell BK263.out 0).trans rfl
  have hfs18 := blk_frozen BK263.out 0
  have hns18_0 := NB259_263.out
  have hms18_0 := NB263_259.out
  refine skip_ (w1 := ?_) (by rfl) rfl ?_ ?_
  rotate_left
  ·go_simp
   rfl
  refine hK.out _ _ ?_
  clear hK K
  refine done_ (done_of HT_.out (by kernel_rfl)) ?_
  have hcz19_0 : w17.cell? ⟨gb263, 0, none⟩ = some (.int .i64 t260) := (blk_cell BK263.out 0).trans rfl
  have hcz19_1 : w17.cell? ⟨gb263, 1, none⟩ = some (.int .i64 t261) := (blk_cell BK263.out 1).trans rfl
  have hfz19_0 := blk_frozen BK263.out 0
  have hfz19_1 := blk_frozen BK263.out 1
  have hnb20 := NB259_0.out
  have hnc20 := NB0_259.out
  have hcz21_0 : w17.cell? ⟨gb259, 0, none⟩ = some (.int .i64 0) := (blk_cell BK259.out 0).trans rfl
  have hcz21_1 : w17.cell? ⟨gb259, 1, none⟩ = some (.int .i64 0) := (blk_cell BK259.out 1).trans rfl
  have hfz21_0 := blk_frozen BK259.out 0
  have hfz21_1 := blk_frozen BK259.out 1
  try go_wp2
  refine bodyPost_ret (results_cell_row rfl _ _ gb259 40 #[.int .i64 (wrap64 (t260 + t269)), .int .i64 t261] (0, 0) _ rfl (by (with_reducible repeat (first | refine blk_drewN ?_ _ | refine blk_drew ?_ | refine blk_alloc ?_ _)); refine blk_put (cs := #[.int .i64 (wrap64 (t260 + t269)), .int .i64 0]) ?_ 1 _ rfl; (with_reducible repeat (first | refine blk_drewN ?_ _ | refine blk_drew ?_ | refine blk_alloc ?_ _)); refine blk_put (cs := #[.int .i64 0, .int .i64 0]) ?_ 0 _ rfl; (with_reducible repeat (first | refine blk_drewN ?_ _ | refine blk_drew ?_ | refine blk_alloc ?_ _)); refine blk_far ?_ NB259_263.out _; (with_reducible repeat (first | refine blk_drewN ?_ _ | refine blk_drew ?_ | refine blk_alloc ?_ _)); exact BK259.out) Try.underlying40 rfl (by kernel_rfl)) rfl ?_
  exact ⟨zz8, zz37 HI0 NB0_259 NB0_263, zz38 HI0 GE259 GE263, zz40 GW259 GW263⟩
 ·rw [if_neg c4] at H
  have c4b0 : (t264 == 0) = false := beq_eq_false_iff_ne.mpr c4
  have c4b1 : (t264 != 0) = true := bne_iff_ne.mpr c4
  by_cases c22 : t264 = 1
  ·rw [if_pos c22] at H
   have c22b0 : (t264 == 1) = true := beq_iff_eq.mpr c22
   have c22b1 : (t264 != 1) = false := bne_eq_false_iff_eq.mpr c22
   clear c22
   obtain ⟨y271, hy271⟩ : ∃ y_ : List Int, y_ = (([(-1), 33, 0, 32] : List Int)) := ⟨_, rfl⟩
   replace H : ((spec_l1Rd_one.f k s0_0 t265 y271).bind fun bt274 => (some (t260, bt274.1, bt274.2))) = some (r1, r2, r3) := by first | (rw [hy271]; with_reducible exact H) | (have H2_ := (Option.bind_some _ _).symm.trans H; rw [hy271]; with_reducible exact H2_) | (have H2_ := (Option.bind_some _ _).symm.trans H; with_reducible exact H2_) | with_reducible exact H | (rw [hy271]; exact H) | exact H
   have Ny271 := Aside0.mk hy271
   clear hy271
   replace H := bd H
   obtain ⟨⟨t274, t275⟩, A23, H⟩ := H
   replace H : (some (t260, t274, t275)) = some (r1, r2, r3) := H
   simp only [Option.some.injEq, Prod.mk.injEq] at H
   obtain ⟨rfl, rfl, rfl⟩ := H
   go_enter Try.func63, Try.ntmps63
   go_wp2_with (first | (refine be 2 #[.int .i64 0, .int .i64 0] 40 ?_; intro gb259 hg w24 hbox hb; replace HB := Aside0.mk (below_step (zz29 HI0) hb); have BK259 := Aside0.mk hbox; have GW259 := Aside0.mk (zz30 : w.heap.size ≤ gb259); have GE259 := Aside0.mk (Nat.le_trans HW0.out (zz30 : w.heap.size ≤ gb259) : w0.heap.size ≤ gb259); replace HK := Aside0.mk (KeepBut.trans zz28 (KeepBut.of_below hb g none) (.inl rfl)); have NB0_259 := Aside0.mk (by rw [hg]; exact Nat.ne_of_lt (IsS103.lt (show IsS103 w0 _ g s0_0 s0_1 from zz27 HI0)) : g ≠ gb259); have NB259_0 := Aside0.mk (by rw [hg]; exact Nat.ne_of_gt (IsS103.lt (show IsS103 w0 _ g s0_0 s0_1 from zz27 HI0)) : gb259 ≠ g); replace HI0 := Aside0.mk (IsS103.below (zz27 HI0) hb); clear hb hbox hg) | (refine gc (some 5) Try.func93 #[.pointer (some ⟨g, 0, none⟩)] ?_; (with_reducible refine (spec_l12Block.calls k g s0_0 s0_1 t260 t261 t262 w0 _ ?side1 ?side2 A2.out).mono ?_); (case side1 => exact zz31 HI0 NB0_259); (case side2 => exact zz32 HI0 GE259); rintro e w25 ⟨rfl, hi, hb, hk⟩; refine ⟨_, rfl, ?_⟩; replace BK259 := Aside0.mk (KeepBut.blk hk (g' := gb259) (o := .cells #[.int .i64 0, .int .i64 0] 40 (0, 0)) (zz7 BK259) NB259_0.out (by simp)); replace HK := Aside0.mk (KeepBut.trans (zz33 GW259) hk (.inl rfl)); replace HB := Aside0.mk hb; replace HI0 := Aside0.mk hi; clear hb hk hi) | (refine be 3 #[.int .i64 0, .int .i64 0] 40 ?_; intro gb263 hg w26 hbox hb; replace HB := Aside0.mk (below_step (zz32 HI0 GE259) hb); have BK263 := Aside0.mk hbox; have GW263 := Aside0.mk (zz36 GW259 : w.heap.size ≤ gb263); have GE263 := Aside0.mk (Nat.le_trans HW0.out (zz36 GW259 : w.heap.size ≤ gb263) : w0.heap.size ≤ gb263); replace HK := Aside0.mk (KeepBut.trans (zz33 GW259) (KeepBut.of_below hb g none) (.inl rfl)); have NB259_263 := Aside0.mk (by rw [hg]; exact Nat.ne_of_lt (blk_lt (g := gb259) (o := .cells #[.int .i64 0, .int .i64 0] 40 (0, 0)) (zz7 BK259)) : gb259 ≠ gb263); have NB263_259 := Aside0.mk (by rw [hg]; exact Nat.ne_of_gt (blk_lt (g := gb259) (o := .cells #[.int .i64 0, .int .i64 0] 40 (0, 0)) (zz7 BK259)) : gb263 ≠ gb259); replace BK259 := Aside0.mk (blk_below (g := gb259) (o := .cells #[.int .i64 0, .int .i64 0] 40 (0, 0)) (zz7 BK259) hb); have NB0_263 := Aside0.mk (by rw [hg]; exact Nat.ne_of_lt (IsS103.lt (show IsS103 w0 _ g s0_0 t262 from zz31 HI0 NB0_259)) : g ≠ gb263); have NB263_0 := Aside0.mk (by rw [hg]; exact Nat.ne_of_gt (IsS103.lt (show IsS103 w0 _ g s0_0 t262 from zz31 HI0 NB0_259)) : gb263 ≠ g); replace HI0 := Aside0.mk (IsS103.below (zz31 HI0 NB0_259) hb); clear hb hbox hg; have hnb27 := NB263_259.out; have hnc27 := NB259_263.out; have hnb28 := NB263_0.out; have hnc28 := NB0_263.out; have hcz29_0 : w26.cell? ⟨gb263, 0, none⟩ = some (.int .i64 0) := (blk_cell BK263.out 0).trans rfl; have hcz29_1 : w26.cell? ⟨gb263, 1, none⟩ = some (.int .i64 0) := (blk_cell BK263.out 1).trans rfl; have hfz29_0 := blk_frozen BK263.out 0; have hfz29_1 := blk_frozen BK263.out 1) | (refine gc (some 7) Try.func44 #[.pointer (some ⟨g, 0, none⟩), .int .i64 16] ?_; (with_reducible refine (spec_l1Rd_pick.calls k g s0_0 t262 16 t264 t265 w0 _ ?side1 ?side2 A3.out).mono ?_); (case side1 => exact zz37 HI0 NB0_259 NB0_263); (case side2 => exact zz38 HI0 GE259 GE263); rintro e w30 ⟨rfl, hi, hb, hk⟩; refine ⟨_, rfl, ?_⟩; replace BK259 := Aside0.mk (KeepBut.blk hk (g' := gb259) (o := .cells #[.int .i64 0, .int .i64 0] 40 (0, 0)) (zz39 NB259_263 BK259) NB259_0.out (by simp)); replace BK263 := Aside0.mk (KeepBut.blk hk (g' := gb263) (o := .cells #[.int .i64 t260, .int .i64 t261] 40 (0, 0)) (by (with_reducible repeat (first | refine blk_drewN ?_ _ | refine blk_drew ?_ | refine blk_alloc ?_ _)); refine blk_put (cs := #[.int .i64 t260, .int .i64 0]) ?_ 1 _ rfl; (with_reducible repeat (first | refine blk_drewN ?_ _ | refine blk_drew ?_ | refine blk_alloc ?_ _)); refine blk_put (cs := #[.int .i64 0, .int .i64 0]) ?_ 0 _ rfl; (with_reducible repeat (first | refine blk_drewN ?_ _ | refine blk_drew ?_ | refine blk_alloc ?_ _)); exact BK263.out) NB263_0.out (by simp)); replace HK := Aside0.mk (KeepBut.trans (zz40 GW259 GW263) hk (.inl rfl)); replace HB := Aside0.mk hb; replace HI0 := Aside0.mk hi; clear hb hk hi) | (refine gt 20 ?_; refine rl (Kd.int .i64) 3 20 ([(-1), 33, 0, 32] : List Int) [.int .i64 (-1), .int .i64 33, .int .i64 0, .int .i64 32] ?hp ?_; (case hp => exact (ro (ro (ro (ro (Reps.none _ _)))))); intro v272 w31 ho32 hb hg_ hnew_; clear hg_ hnew_; (first | rw [← Ny271.out] at ho32 | (simp only [Int.reduceToNat] at ho32; rw [← Ny271.out] at ho32)); have HO273 := Aside0.mk (Kd.R_lower ho32 (keep_size (w := w) (g := g) (row := none) (zz40 GW259 GW263))); replace BK259 := Aside0.mk (blk_below (g := gb259) (o := .cells #[.int .i64 0, .int .i64 0] 40 (0, 0)) (zz7 BK259) hb); replace BK263 := Aside0.mk (blk_below (g := gb263) (o := .cells #[.int .i64 t260, .int .i64 t261] 40 (0, 0)) (zz7 BK263) hb); replace HK := Aside0.mk (KeepBut.trans (zz40 GW259 GW263) (KeepBut.of_below hb g none) (.inl rfl)); replace HB := Aside0.mk (below_step (zz38 HI0 GE259 GE263) hb); replace HI0 := Aside0.mk (IsS103.below (zz37 HI0 NB0_259 NB0_263) hb); clear hb ho32; obtain ⟨Ao33, co33, eo33⟩ := Kd.R_slice HO273.out; subst eo33) | (refine gc (some 21) Try.func45 #[.pointer (some ⟨g, 0, none⟩), .slice Ao33 y271.length co33] ?_; (with_reducible refine (spec_l1Rd_one.calls k g s0_0 t265 _ _ y271 t274 t275 w0 _ ?side1 ?side2 ?side3 ?side4 ?side5 A23.out).mono ?_); (case side1 => exact zz37 HI0 NB0_259 NB0_263); (case side2 => exact zz38 HI0 GE259 GE263); (case side3 => exact zz20 HO273); (case side4 => exact zz23 HO273); (case side5 => exact far_slice (IsS103.own_ne HI0.out HO273.out (by decide))); rintro e w34 ⟨rfl, hi, hb, hk⟩; refine ⟨_, rfl, ?_⟩; replace BK259 := Aside0.mk (KeepBut.blk hk (g' := gb259) (o := .cells #[.int .i64 0, .int .i64 0] 40 (0, 0)) (zz7 BK259) NB259_0.out (by simp)); replace BK263 := Aside0.mk (KeepBut.blk hk (g' := gb263) (o := .cells #[.int .i64 t260, .int .i64 t261] 40 (0, 0)) (zz7 BK263) NB263_0.out (by simp)); replace HO273 := Aside0.mk (Kd.R_mono (Kd.R_keep (IsS103.apart (show IsS103 w0 _ g s0_0 t265 from zz37 HI0 NB0_259 NB0_263) (zz12 HO273) (by decide)) hk (fun _ h => h.2)) (fun _ h => h.1)); replace HK := Aside0.mk (KeepBut.trans (zz40 GW259 GW263) hk (.inl rfl)); replace HB := Aside0.mk hb; replace HI0 := Aside0.mk hi; clear hb hk hi; have hcz35_0 : w34.cell? ⟨gb263, 0, none⟩ = some (.int .i64 t260) := (blk_cell BK263.out 0).trans rfl; have hcz35_1 : w34.cell? ⟨gb263, 1, none⟩ = some (.int .i64 t261) := (blk_cell BK263.out 1).trans rfl; have hfz35_0 := blk_frozen BK263.out 0; have hfz35_1 := blk_frozen BK263.out 1; have hnb36 := NB259_0.out; have hnc36 := NB0_259.out; have hcz37_0 : w34.cell? ⟨gb259, 0, none⟩ = some (.int .i64 0) := (blk_cell BK259.out 0).trans rfl; have hcz37_1 : w34.cell? ⟨gb259, 1, none⟩ = some (.int .i64 0) := (blk_cell BK259.out 1).trans rfl; have hfz37_0 := blk_frozen BK259.out 0; have hfz37_1 := blk_frozen BK259.out 1))
   refine bodyPost_ret (results_cell_row rfl _ _ gb259 40 #[.int .i64 t260, .int .i64 t274] (0, 0) _ rfl (by (with_reducible repeat (first | refine blk_drewN ?_ _ | refine blk_drew ?_ | refine blk_alloc ?_ _)); refine blk_put (cs := #[.int .i64 t260, .int .i64 0]) ?_ 1 _ rfl; (with_reducible repeat (first | refine blk_drewN ?_ _ | refine blk_drew ?_ | refine blk_alloc ?_ _)); refine blk_put (cs := #[.int .i64 0, .int .i64 0]) ?_ 0 _ rfl; (with_reducible repeat (first | refine blk_drewN ?_ _ | refine blk_drew ?_ | refine blk_alloc ?_ _)); refine blk_far ?_ NB259_263.out _; (with_reducible repeat (first | refine blk_drewN ?_ _ | refine blk_drew ?_ | refine blk_alloc ?_ _)); exact BK259.out) Try.underlying40 rfl (by kernel_rfl)) rfl ?_
   exact ⟨zz8, zz37 HI0 NB0_259 NB0_263, zz38 HI0 GE259 GE263, zz40 GW259 GW263⟩
  ·rw [if_neg c22] at H
   have c22b0 : (t264 == 1) = false := beq_eq_false_iff_ne.mpr c22
   have c22b1 : (t264 != 1) = true := bne_iff_ne.mpr c22
   simp only [Option.some.injEq, Prod.mk.injEq] at H
   obtain ⟨rfl, rfl, rfl⟩ := H
   go_enter Try.func63, Try.ntmps63
   go_wp2_with (first | (refine be 2 #[.int .i64 0, .int .i64 0] 40 ?_; intro gb259 hg w38 hbox hb; replace HB := Aside0.mk (below_step (zz29 HI0) hb); have BK259 := Aside0.mk hbox; have GW259 := Aside0.mk (zz30 : w.heap.size ≤ gb259); have GE259 := Aside0.mk (Nat.le_trans HW0.out (zz30 : w.heap.size ≤ gb259) : w0.heap.size ≤ gb259); replace HK := Aside0.mk (KeepBut.trans zz28 (KeepBut.of_below hb g none) (.inl rfl)); have NB0_259 := Aside0.mk (by rw [hg]; exact Nat.ne_of_lt (IsS103.lt (show IsS103 w0 _ g s0_0 s0_1 from zz27 HI0)) : g ≠ gb259); have NB259_0 := Aside0.mk (by rw [hg]; exact Nat.ne_of_gt (IsS103.lt (show IsS103 w0 _ g s0_0 s0_1 from zz27 HI0)) : gb259 ≠ g); replace HI0 := Aside0.mk (IsS103.below (zz27 HI0) hb); clear hb hbox hg) | (refine gc (some 5) Try.func93 #[.pointer (some ⟨g, 0, none⟩)] ?_; (with_reducible refine (spec_l12Block.calls k g s0_0 s0_1 t260 t261 t262 w0 _ ?side1 ?side2 A2.out).mono ?_); (case side1 => exact zz31 HI0 NB0_259); (case side2 => exact zz32 HI0 GE259); rintro e w39 ⟨rfl, hi, hb, hk⟩; refine ⟨_, rfl, ?_⟩; replace BK259 := Aside0.mk (KeepBut.blk hk (g' := gb259) (o := .cells #[.int .i64 0, .int .i64 0] 40 (0, 0)) (zz7 BK259) NB259_0.out (by simp)); replace HK := Aside0.mk (KeepBut.trans (zz33 GW259) hk (.inl rfl)); replace HB := Aside0.mk hb; replace HI0 := Aside0.mk hi; clear hb hk hi) | (refine be 3 #[.int .i64 0, .int .i64 0] 40 ?_; intro gb263 hg w40 hbox hb; replace HB := Aside0.mk (below_step (zz32 HI0 GE259) hb); have BK263 := Aside0.mk hbox; have GW263 := Aside0.mk (zz36 GW259 : w.heap.size ≤ gb263); have GE263 := Aside0.mk (Nat.le_trans HW0.out (zz36 GW259 : w.heap.size ≤ gb263) : w0.heap.size ≤ gb263); replace HK := Aside0.mk (KeepBut.trans (zz33 GW259) (KeepBut.of_below hb g none) (.inl rfl)); have NB259_263 := Aside0.mk (by rw [hg]; exact Nat.ne_of_lt (blk_lt (g := gb259) (o := .cells #[.int .i64 0, .int .i64 0] 40 (0, 0)) (zz7 BK259)) : gb259 ≠ gb263); have NB263_259 := Aside0.mk (by rw [hg]; exact Nat.ne_of_gt (blk_lt (g := gb259) (o := .cells #[.int .i64 0, .int .i64 0] 40 (0, 0)) (zz7 BK259)) : gb263 ≠ gb259); replace BK259 := Aside0.mk (blk_below (g := gb259) (o := .cells #[.int .i64 0, .int .i64 0] 40 (0, 0)) (zz7 BK259) hb); have NB0_263 := Aside0.mk (by rw [hg]; exact Nat.ne_of_lt (IsS103.lt (show IsS103 w0 _ g s0_0 t262 from zz31 HI0 NB0_259)) : g ≠ gb263); have NB263_0 := Aside0.mk (by rw [hg]; exact Nat.ne_of_gt (IsS103.lt (show IsS103 w0 _ g s0_0 t262 from zz31 HI0 NB0_259)) : gb263 ≠ g); replace HI0 := Aside0.mk (IsS103.below (zz31 HI0 NB0_259) hb); clear hb hbox hg; have hnb41 := NB263_259.out; have hnc41 := NB259_263.out; have hnb42 := NB263_0.out; have hnc42 := NB0_263.out; have hcz43_0 : w40.cell? ⟨gb263, 0, none⟩ = some (.int .i64 0) := (blk_cell BK263.out 0).trans rfl; have hcz43_1 : w40.cell? ⟨gb263, 1, none⟩ = some (.int .i64 0) := (blk_cell BK263.out 1).trans rfl; have hfz43_0 := blk_frozen BK263.out 0; have hfz43_1 := blk_frozen BK263.out 1) | (refine gc (some 7) Try.func44 #[.pointer (some ⟨g, 0, none⟩), .int .i64 16] ?_; (with_reducible refine (spec_l1Rd_pick.calls k g s0_0 t262 16 t264 t265 w0 _ ?side1 ?side2 A3.out).mono ?_); (case side1 => exact zz37 HI0 NB0_259 NB0_263); (case side2 => exact zz38 HI0 GE259 GE263); rintro e w44 ⟨rfl, hi, hb, hk⟩; refine ⟨_, rfl, ?_⟩; replace BK259 := Aside0.mk (KeepBut.blk hk (g' := gb259) (o := .cells #[.int .i64 0, .int .i64 0] 40 (0, 0)) (zz39 NB259_263 BK259) NB259_0.out (by simp)); replace BK263 := Aside0.mk (KeepBut.blk hk (g' := gb263) (o := .cells #[.int .i64 t260, .int .i64 t261] 40 (0, 0)) (by (with_reducible repeat (first | refine blk_drewN ?_ _ | refine blk_drew ?_ | refine blk_alloc ?_ _)); refine blk_put (cs := #[.int .i64 t260, .int .i64 0]) ?_ 1 _ rfl; (with_reducible repeat (first | refine blk_drewN ?_ _ | refine blk_drew ?_ | refine blk_alloc ?_ _)); refine blk_put (cs := #[.int .i64 0, .int .i64 0]) ?_ 0 _ rfl; (with_reducible repeat (first | refine blk_drewN ?_ _ | refine blk_drew ?_ | refine blk_alloc ?_ _)); exact BK263.out) NB263_0.out (by simp)); replace HK := Aside0.mk (KeepBut.trans (zz40 GW259 GW263) hk (.inl rfl)); replace HB := Aside0.mk hb; replace HI0 := Aside0.mk hi; clear hb hk hi; have hcz45_0 : w44.cell? ⟨gb263, 0, none⟩ = some (.int .i64 t260) := (blk_cell BK263.out 0).trans rfl; have hcz45_1 : w44.cell? ⟨gb263, 1, none⟩ = some (.int .i64 t261) := (blk_cell BK263.out 1).trans rfl; have hfz45_0 := blk_frozen BK263.out 0; have hfz45_1 := blk_frozen BK263.out 1; have hnb46 := NB259_0.out; have hnc46 := NB0_259.out; have hcz47_0 : w44.cell? ⟨gb259, 0, none⟩ = some (.int .i64 0) := (blk_cell BK259.out 0).trans rfl; have hcz47_1 : w44.cell? ⟨gb259, 1, none⟩ = some (.int .i64 0) := (blk_cell BK259.out 1).trans rfl; have hfz47_0 := blk_frozen BK259.out 0; have hfz47_1 := blk_frozen BK259.out 1))
   refine bodyPost_ret (results_cell_row rfl _ _ gb259 40 #[.int .i64 t260, .int .i64 t261] (0, 0) _ rfl (by (with_reducible repeat (first | refine blk_drewN ?_ _ | refine blk_drew ?_ | refine blk_alloc ?_ _)); refine blk_put (cs := #[.int .i64 t260, .int .i64 0]) ?_ 1 _ rfl; (with_reducible repeat (first | refine blk_drewN ?_ _ | refine blk_drew ?_ | refine blk_alloc ?_ _)); refine blk_put (cs := #[.int .i64 0, .int .i64 0]) ?_ 0 _ rfl; (with_reducible repeat (first | refine blk_drewN ?_ _ | refine blk_drew ?_ | refine blk_alloc ?_ _)); exact BK259.out) Try.underlying40 rfl (by kernel_rfl)) rfl ?_
   exact ⟨zz8, zz37 HI0 NB0_259 NB0_263, zz38 HI0 GE259 GE263, zz40 GW259 GW263⟩
def spec_l2First.l0 : Nat → Int → Int → Int → Option (Int × Int)
 | 0, _, _, _ => none
 | k + 1, x0, x1, x5 => (spec_l1Size.f k x5).bind fun t277 => (if t277 = 0 then (none) else (if (Int.tmod x0 t277) = 0 then ((spec_l1Size.f k x5).bind fun t278 => (if (wrap64 ((wrap64 (x0 + t278)) - 1)) > x1 then (spec_l2First.l0 k x0 x1 (wrap64 (x5 + 1))) else (some (x0, x5)))) else (spec_l2First.l0 k x0 x1 (wrap64 (x5 + 1)))))
def spec_l2First.f (k : Nat) (a0 : Int) (a1 : Int) : Option (Int × Int) := spec_l2First.l0 k a0 a1 0
set_option maxHeartbeats 8000000 in
set_option maxRecDepth 100000 in
theorem spec_l2First.calls (k : Nat) (a0 : Int) (a1 : Int) (r1 : Int) (r2 : Int) (w : World) (h : spec_l2First.f k a0 a1 = some (r1, r2)) :
  Calls Try.prog 90 #[.int .i64 a0, .int .i64 a1] w fun e w' => e = .returned (.agg #[.int .i64 r1, .int .i64 r2]) ∧ Below w.heap.size w w' := by
 have hu40 := Try.underlying40
 have HB := Aside0.mk (Below.refl w.heap.size w)
 have H : (spec_l2First.l0 k a0 a1 0) = some (r1, r2) := h
 clear h
 have H' := Aside0.mk H
 clear H
 go_enter Try.func90, Try.ntmps90
 go_wp2_with (first | (refine be 4 #[.int .i64 0, .int .i64 0] 40 ?_; intro gb276 hg w3 hbox hb; have BK276 := Aside0.mk hbox; have GW276 := Aside0.mk (zz4 : w.heap.size ≤ gb276); have GE276 := Aside0.mk (zz4 : w.heap.size ≤ gb276); replace HB := Aside0.mk (below_step zz5 hb); clear hb hbox hg))
 go_loopg [5] k (fun kq v5 w' => ∃ (x5_1 : Int), v5 = .int .i64 x5_1 ∧ Aside0 (spec_l2First.l0 kq a0 a1 x5_1 = some (r1, r2)) ∧ Aside0 (kq ≤ k) ∧ Aside0 (w'.heap[gb276]? = some (.cells #[.int .i64 0, .int .i64 0] 40 (0, 0))) ∧ Aside0 (Below w.heap.size w w'))
 case atStart => exact ⟨(0), zz1, H', ⟨Nat.le_refl _⟩, ⟨zz7 BK276⟩, ⟨zz6 GE276⟩⟩
 case round =>
  clear H'
  try clear p2
  obtain ⟨x5_1, rfl, HA, HK1, BK276, HB⟩ := hrel
  cases gk with
  | zero => exact absurd HA.out (by simp [spec_l2First.l0])
  | succ k1 =>
   have H := HA.out
   clear HA
   simp only [spec_l2First.l0] at H
   replace H := bd H
   obtain ⟨t277, A4, H⟩ := H
   replace H : (if t277 = 0 then (none) else (if (Int.tmod a0 t277) = 0 then ((spec_l1Size.f k1 x5_1).bind fun t278 => (if (wrap64 ((wrap64 (a0 + t278)) - 1)) > a1 then (spec_l2First.l0 k1 a0 a1 (wrap64 (x5_1 + 1))) else (some (a0, x5_1)))) else (spec_l2First.l0 k1 a0 a1 (wrap64 (x5_1 + 1))))) = some (r1, r2) := H
   replace H := gn H
   obtain ⟨c5, H⟩ := H
   have c5b0 : (t277 == 0) = false := beq_eq_false_iff_ne.mpr c5
   have c5b1 : (t277 != 0) = true := bne_iff_ne.mpr c5
   by_cases c6 : (Int.tmod a0 t277) = 0
   ·rw [if_pos c6] at H
    have c6b0 : ((Int.tmod a0 t277) == 0) = true := beq_iff_eq.mpr c6
    have c6b1 : ((Int.tmod a0 t277) != 0) = false := bne_eq_false_iff_eq.mpr c6
    clear c6
    replace H := bd H
    obtain ⟨t278, A7, H⟩ := H
    replace H : (if (wrap64 ((wrap64 (a0 + t278)) - 1)) > a1 then (spec_l2First.l0 k1 a0 a1 (wrap64 (x5_1 + 1))) else (some (a0, x5_1))) = some (r1, r2) := H
    replace H := ic H
    rcases H with ⟨c8b0, H⟩ | ⟨c8b0, H⟩
    ·have H' := Aside0.mk H
     clear H
     go_wp2_with (first | (refine gc (some 8) Try.func73 #[.int .i64 x5_1] ?_; (with_reducible refine (spec_l1Size.calls k1 x5_1 t277 _ A4.out).mono ?_); rintro e w' ⟨rfl, ⟨nd, rfl⟩⟩; refine ⟨_, rfl, ?_⟩) | (go_at_call 73; (with_reducible refine (spec_l1Size.calls k1 x5_1 t278 _ A7.out).mono ?_); rintro e w' ⟨rfl, ⟨nd, rfl⟩⟩))
     go_roundg k1
     case measure => have := HK1.out; omega
     case rel => exact ⟨(wrap64 (x5_1 + 1)), zz1, H', ⟨zz3 HK1⟩, ⟨zz7 BK276⟩, ⟨zz6 GE276⟩⟩
    ·simp only [Option.some.injEq, Prod.mk.injEq] at H
     obtain ⟨rfl, rfl⟩ := H
     go_wp2_with (first | (refine gc (some 8) Try.func73 #[.int .i64 x5_1] ?_; (with_reducible refine (spec_l1Size.calls k1 x5_1 t277 _ A4.out).mono ?_); rintro e w' ⟨rfl, ⟨nd, rfl⟩⟩; refine ⟨_, rfl, ?_⟩; (try (rw [drewN_self wr]; generalize hq_ : World.drewN wr _ = wr; have n0_ : Aside0 (wr.heap[gb276]? = some (.cells #[.int .i64 0, .int .i64 0] 40 (0, 0))) := ⟨by rw [← hq_]; exact (zz7 BK276)⟩; have n1_ : Aside0 (Below w.heap.size w wr) := ⟨zz41 GE276⟩; clear BK276 HB hq_; have BK276 := n0_; have HB := n1_; clear n0_ n1_; have hcy276_0 : wr.cell? ⟨gb276, 0, none⟩ = some (.int .i64 0) := (blk_cell BK276.out 0).trans rfl; have hcy276_1 : wr.cell? ⟨gb276, 1, none⟩ = some (.int .i64 0) := (blk_cell BK276.out 1).trans rfl))) | (go_at_call 73; (with_reducible refine (spec_l1Size.calls k1 x5_1 t278 _ A7.out).mono ?_); rintro e w' ⟨rfl, ⟨nd, rfl⟩⟩; (try (rw [drewN_self wr]; generalize hq_ : World.drewN wr _ = wr; have n0_ : Aside0 (wr.heap[gb276]? = some (.cells #[.int .i64 0, .int .i64 0] 40 (0, 0))) := ⟨by rw [← hq_]; exact (zz7 BK276)⟩; have n1_ : Aside0 (Below w.heap.size w wr) := ⟨zz41 GE276⟩; clear BK276 HB hq_; have BK276 := n0_; have HB := n1_; clear n0_ n1_; have hcy276_0 : wr.cell? ⟨gb276, 0, none⟩ = some (.int .i64 0) := (blk_cell BK276.out 0).trans rfl; have hcy276_1 : wr.cell? ⟨gb276, 1, none⟩ = some (.int .i64 0) := (blk_cell BK276.out 1).trans rfl)); have hcz9_0 : wr.cell? ⟨gb276, 0, none⟩ = some (.int .i64 0) := (blk_cell BK276.out 0).trans rfl; have hcz9_1 : wr.cell? ⟨gb276, 1, none⟩ = some (.int .i64 0) := (blk_cell BK276.out 1).trans rfl; have hfz9_0 := blk_frozen BK276.out 0; have hfz9_1 := blk_frozen BK276.out 1))
     refine bodyPost_ret (results_cell_row rfl _ _ gb276 40 #[.int .i64 a0, .int .i64 x5_1] (0, 0) _ rfl (by (with_reducible repeat (first | refine blk_drewN ?_ _ | refine blk_drew ?_ | refine blk_alloc ?_ _)); refine blk_put (cs := #[.int .i64 a0, .int .i64 0]) ?_ 1 _ rfl; (with_reducible repeat (first | refine blk_drewN ?_ _ | refine blk_drew ?_ | refine blk_alloc ?_ _)); refine blk_put (cs := #[.int .i64 0, .int .i64 0]) ?_ 0 _ rfl; (with_reducible repeat (first | refine blk_drewN ?_ _ | refine blk_drew ?_ | refine blk_alloc ?_ _)); exact BK276.out) Try.underlying40 rfl (by kernel_rfl)) rfl ?_
     exact ⟨zz8, zz6 GE276⟩
   ·rw [if_neg c6] at H
    have c6b0 : ((Int.tmod a0 t277) == 0) = false := beq_eq_false_iff_ne.mpr c6
    have c6b1 : ((Int.tmod a0 t277) != 0) = true := bne_iff_ne.mpr c6
    have H' := Aside0.mk H
    clear H
    go_wp2_with (first | (refine gc (some 8) Try.func73 #[.int .i64 x5_1] ?_; (with_reducible refine (spec_l1Size.calls k1 x5_1 t277 _ A4.out).mono ?_); rintro e w' ⟨rfl, ⟨nd, rfl⟩⟩; refine ⟨_, rfl, ?_⟩))
    go_roundg k1
    case measure => have := HK1.out; omega
    case rel => exact ⟨(wrap64 (x5_1 + 1)), zz1, H', ⟨zz3 HK1⟩, ⟨zz7 BK276⟩, ⟨zz6 GE276⟩⟩
mutual
def spec_l2Cover.l0 : Nat → List (S72) → List (S40) → Int → Option ((List (S40)))
 | 0, _, _, _ => none
 | k + 1, x0, x3, x4 => if x4 < (x0.length : Int) then (if 0 ≤ x4 then (spec_l2Cover.l1 k x0 x3 x4 ((rd_T72 x0 x4).f0)) else (none)) else (some x3)
def spec_l2Cover.l1 : Nat → List (S72) → List (S40) → Int → Int → Option ((List (S40)))
 | 0, _, _, _, _ => none
 | k + 1, x0, x3, x4, x5 => if 0 ≤ x4 then (if x4 < (x0.length : Int) then (if x5 ≤ ((rd_T72 x0 x4).f1) then ((spec_l2First.f k x5 ((rd_T72 x0 x4).f1)).bind fun bt285 => (if x3.length < 8796093022208 then ((spec_l1Size.f k bt285.2).bind fun t291 => (spec_l2Cover.l1 k x0 (x3 ++ [(⟨bt285.1, bt285.2⟩ : S40)]) x4 (wrap64 (x5 + t291)))) else (none))) else (spec_l2Cover.l0 k x0 x3 (wrap64 (x4 + 1)))) else (none)) else (none)
end
def spec_l2Cover.f (k : Nat) (l0 : List (S72)) : Option ((List (S40))) := spec_l2Cover.l0 k l0 (([] : List (S40))) 0
set_option maxHeartbeats 8000000 in
set_option maxRecDepth 100000 in
theorem spec_l2Cover.calls (k : Nat) (A0 : Option Addr) (c0 : Nat) (l0 : List (S72)) (r : List (S40)) (w : World) (hr0 : Kd.C k72 w A0 l0.length l0) (hc0 : l0.length ≤ c0) (h : spec_l2Cover.f k l0 = some r) :
  Calls Try.prog 49 #[.slice A0 l0.length c0] w fun e w' => ∃ v0_ : Value, e = .returned (v0_) ∧ Kd.R k40 40 w' w.heap.size (fun _ => True) v0_ r ∧ Below w.heap.size w w' := by
 have hu40 := Try.underlying40
 have HR0 := Aside0.mk hr0
 have HC0 := Aside0.mk hc0
 clear hr0 hc0
 have HB := Aside0.mk (Below.refl w.heap.size w)
 have H : (spec_l2Cover.l0 k l0 (([] : List (S40))) 0) = some r := h
 clear h
 obtain ⟨y279, hy279⟩ : ∃ y_ : List (S40), y_ = (([] : List (S40))) := ⟨_, rfl⟩
 replace H : (spec_l2Cover.l0 k l0 y279 0) = some r := by first | (rw [hy279]; with_reducible exact H) | (have H2_ := (Option.bind_some _ _).symm.trans H; rw [hy279]; with_reducible exact H2_) | (have H2_ := (Option.bind_some _ _).symm.trans H; with_reducible exact H2_) | with_reducible exact H | (rw [hy279]; exact H) | exact H
 have Ny279 := Aside0.mk hy279
 clear hy279
 have H' := Aside0.mk H
 clear H
 go_enter Try.func49, Try.ntmps49
 go_wp2_with (first | (refine gt 7 ?_; refine rl k40 40 7 ([] : List (S40)) [] ?hp ?_; (case hp => exact zz34); intro v280 w2 ho3 hb hg_ hnew_; clear hg_ hnew_; (first | rw [← Ny279.out] at ho3 | (simp only [Int.reduceToNat] at ho3; rw [← Ny279.out] at ho3)); have HO281 := Aside0.mk (Kd.R_lower ho3 (below_size zz5)); replace HB := Aside0.mk (below_step zz5 hb); clear hb ho3))
 go_loopg [3, 4] k (fun kq v3 v4 w' => ∃ (x3_1 : List (S40)) (x4_1 : Int), v4 = .int .i64 x4_1 ∧ Aside0 (spec_l2Cover.l0 kq l0 x3_1 x4_1 = some r) ∧ Aside0 (kq ≤ k) ∧ Aside0 (Kd.R k40 40 w' w.heap.size (fun _ => True) v3 x3_1) ∧ Aside0 (Below w.heap.size w w'))
 case atStart => exact ⟨(y279), (0), zz1, H', ⟨Nat.le_refl _⟩, ⟨zz12 HO281⟩, ⟨zz5⟩⟩
 case round =>
  clear H'
  try clear p2
  obtain ⟨x3_1, x4_1, rfl, HA, HK1, HO_3, HB⟩ := hrel
  cases gk with
  | zero => exact absurd HA.out (by simp [spec_l2Cover.l0])
  | succ k1 =>
   have H := HA.out
   clear HA
   simp only [spec_l2Cover.l0] at H
   replace H := ic H
   rcases H with ⟨c4b0, H⟩ | ⟨c4b0, H⟩
   ·replace H := gd H
    obtain ⟨c5b0, H⟩ := H
    have H' := Aside0.mk H
    clear H
    obtain ⟨⟨ad282, e282, hx282_0, hx282_1⟩, p282, q282⟩ := wi (at_T72 HR0.out x4_1)
    cases e282
    replace hx282_0 := (HB.out.cell (World.block_lt_of_cell? w _ hx282_0)).trans hx282_0
    replace hx282_1 := (HB.out.cell (World.block_lt_of_cell? w _ hx282_1)).trans hx282_1
    go_wp2
    go_loopg [3, 5] k1 (fun kq v3 v5 w' => ∃ (x3_2 : List (S40)) (x5_2 : Int), v5 = .int .i64 x5_2 ∧ Aside0 (spec_l2Cover.l1 kq l0 x3_2 x4_1 x5_2 = some r) ∧ Aside0 (kq ≤ k1) ∧ Aside0 (Kd.R k40 40 w' w.heap.size (fun _ => True) v3 x3_2) ∧ Aside0 (Below w.heap.size w w'))
    case atStart => exact ⟨(x3_1), ((rd_T72 l0 x4_1).f0), zz1, H', ⟨Nat.le_refl _⟩, ⟨zz12 HO_3⟩, ⟨zz5⟩⟩
    case round =>
     clear H'
     try clear p2
     try clear q2
     try clear hx2
     try clear c4
     try clear c4b0
     try clear c5
     try clear c5b0
     try clear hx282_0
     try clear hx282_1
     try clear p2
     try clear p282
     try clear q282
     obtain ⟨x3_2, x5_2, rfl, HA, HK2, HO_3, HB⟩ := hrel
     cases gk with
     | zero => exact absurd HA.out (by simp [spec_l2Cover.l1])
     | succ k2 =>
      have H := HA.out
      clear HA
      simp only [spec_l2Cover.l1] at H
      replace H := gd H
      obtain ⟨c6b0, H⟩ := H
      replace H := gd H
      obtain ⟨c7b0, H⟩ := H
      replace H := ic H
      rcases H with ⟨c8b0, H⟩ | ⟨c8b0, H⟩
      ·replace H := Option.bind_eq_some_iff.mp H
       obtain ⟨⟨t285, t286⟩, A90, H⟩ := H
       replace H : (if x3_2.length < 8796093022208 then ((spec_l1Size.f k2 t286).bind fun t291 => (spec_l2Cover.l1 k2 l0 (x3_2 ++ [(⟨t285, t286⟩ : S40)]) x4_1 (wrap64 (x5_2 + t291)))) else (none)) = some r := H
       have A9 := Aside0.mk A90
       clear A90
       replace H := gp H
       obtain ⟨c10, H⟩ := H
       have LMc10 := Aside0.mk c10
       clear c10
       obtain ⟨y288, hy288⟩ : ∃ y_ : List (S40), y_ = (x3_2 ++ [(⟨t285, t286⟩ : S40)]) := ⟨_, rfl⟩
       replace H : ((spec_l1Size.f k2 t286).bind fun t291 => (spec_l2Cover.l1 k2 l0 y288 x4_1 (wrap64 (x5_2 + t291)))) = some r := by first | (rw [hy288]; with_reducible exact H) | (have H2_ := (Option.bind_some _ _).symm.trans H; rw [hy288]; with_reducible exact H2_) | (have H2_ := (Option.bind_some _ _).symm.trans H; with_reducible exact H2_) | with_reducible exact H | (rw [hy288]; exact H) | exact H
       have Ny288 := Aside0.mk hy288
       clear hy288
       replace H := bd H
       obtain ⟨t291, A11, H⟩ := H
       replace H : (spec_l2Cover.l1 k2 l0 y288 x4_1 (wrap64 (x5_2 + t291))) = some r := H
       have H' := Aside0.mk H
       clear H
       obtain ⟨⟨ad283, e283, hx283_0, hx283_1⟩, p283, q283⟩ := wi (at_T72 HR0.out x4_1)
       obtain rfl : ad282 = ad283 := (by injection e283)
       replace hx283_0 := (HB.out.cell (World.block_lt_of_cell? w _ hx283_0)).trans hx283_0
       replace hx283_1 := (HB.out.cell (World.block_lt_of_cell? w _ hx283_1)).trans hx283_1
       obtain ⟨⟨ad284, e284, hx284_0, hx284_1⟩, p284, q284⟩ := wi (at_T72 HR0.out x4_1)
       obtain rfl : ad282 = ad284 := (by injection e284)
       replace hx284_0 := (HB.out.cell (World.block_lt_of_cell? w _ hx284_0)).trans hx284_0
       replace hx284_1 := (HB.out.cell (World.block_lt_of_cell? w _ hx284_1)).trans hx284_1
       go_wp2_with (first | (refine gc (some 32) Try.func90 #[.int .i64 x5_2, .int .i64 ((rd_T72 l0 x4_1).f1)] ?_; (with_reducible refine (spec_l2First.calls k2 x5_2 ((rd_T72 l0 x4_1).f1) t285 t286 _ A9.out).mono ?_); rintro e w12 ⟨rfl, hb⟩; refine ⟨_, rfl, ?_⟩; replace HO_3 := Aside0.mk (Kd.R_below (zz12 HO_3) hb); replace HB := Aside0.mk (below_step zz5 hb); clear hb) | (refine be 6 #[.int .i64 0, .int .i64 0] 40 ?_; intro gb287 hg w13 hbox hb; replace HO_3 := Aside0.mk (Kd.R_below (Kd.R_elderB (zz12 HO_3) gb287 (Nat.le_of_eq hg.symm)) hb); have BK287 := Aside0.mk hbox; have GW287 := Aside0.mk (zz4 : w.heap.size ≤ gb287); have GE287 := Aside0.mk (zz4 : w.heap.size ≤ gb287); replace HB := Aside0.mk (below_step zz5 hb); clear hb hbox hg; have hcz14_0 : w13.cell? ⟨gb287, 0, none⟩ = some (.int .i64 0) := (blk_cell BK287.out 0).trans rfl; have hcz14_1 : w13.cell? ⟨gb287, 1, none⟩ = some (.int .i64 0) := (blk_cell BK287.out 1).trans rfl; have hfz14_0 := blk_frozen BK287.out 0; have hfz14_1 := blk_frozen BK287.out 1) | ((with_reducible refine gate_builtin (b := .append) (xs := #[.tmp 33, .tmp 35]) rfl ?_); at_builtin; refine Kd.R_append k40 (w0 := w) w.heap.size rfl (.tmp 33) (.tmp 35) 25 40 (.agg #[(.int .i64 0), (.int .i64 0)]) 16 rfl Try.underlying25 info40 rfl (by decide) (by omega) u3 x3_2 (⟨t285, t286⟩ : S40) [.int .i64 t285, .int .i64 t286] (fun k_ => k_ ≠ gb287) (fun _ => False) rfl zz42 ?aP (fun _ hk => hk.elim) ?aF ?aO ?aB ?aS ?aL ?_; (case aP => exact k40_mkM _ _ _ (⟨t285, t286⟩ : S40)); (case aB => exact zz6 GE287); (case aF => exact (fun k_ hk => Kd.freshB (g := gb287) (o := .cells #[.int .i64 t285, .int .i64 t286] 40 (0, 0)) (by (with_reducible repeat (first | refine blk_drewN ?_ _ | refine blk_drew ?_ | refine blk_alloc ?_ _)); refine blk_put (cs := #[.int .i64 t285, .int .i64 0]) ?_ 1 _ rfl; (with_reducible repeat (first | refine blk_drewN ?_ _ | refine blk_drew ?_ | refine blk_alloc ?_ _)); refine blk_put (cs := #[.int .i64 0, .int .i64 0]) ?_ 0 _ rfl; (with_reducible repeat (first | refine blk_drewN ?_ _ | refine blk_drew ?_ | refine blk_alloc ?_ _)); exact BK287.out) k_ hk)); (case aO => (with_reducible repeat (first | apply Kd.R_alloc | apply Kd.R_drewN | apply Kd.R_drew)); exact Kd.R_mono (Kd.R_far (p := ⟨gb287, 1, none⟩) (Kd.R_far (p := ⟨gb287, 0, none⟩) (Kd.R_mono HO_3.out (fun k_ hk => (⟨hk, hk.2⟩ : _ ∧ k_ ≠ gb287))) (fun _ hk => hk.2) (.int .i64 t285)) (fun _ hk => hk.2) (.int .i64 t286)) (fun _ hk => hk.1.2)); (case aS => exact zz14 GE287); (case aL => exact zz3 LMc10); intro v289 w15 ho hb hg hat; rw [← Ny288.out] at ho; replace BK287 := Aside0.mk (blk_grown (g := gb287) (o := .cells #[.int .i64 t285, .int .i64 t286] 40 (0, 0)) (by (with_reducible repeat (first | refine blk_drewN ?_ _ | refine blk_drew ?_ | refine blk_alloc ?_ _)); refine blk_put (cs := #[.int .i64 t285, .int .i64 0]) ?_ 1 _ rfl; (with_reducible repeat (first | refine blk_drewN ?_ _ | refine blk_drew ?_ | refine blk_alloc ?_ _)); refine blk_put (cs := #[.int .i64 0, .int .i64 0]) ?_ 0 _ rfl; (with_reducible repeat (first | refine blk_drewN ?_ _ | refine blk_drew ?_ | refine blk_alloc ?_ _)); exact BK287.out) hg (Kd.R_away HO_3.out (fun _ hk => hk.2))); replace HB := Aside0.mk hb; have HO290 := Aside0.mk ho; clear HO_3 ho hb hg hat; have hcz16_0 : w15.cell? ⟨gb287, 0, none⟩ = some (.int .i64 t285) := (blk_cell BK287.out 0).trans rfl; have hcz16_1 : w15.cell? ⟨gb287, 1, none⟩ = some (.int .i64 t286) := (blk_cell BK287.out 1).trans rfl; have hfz16_0 := blk_frozen BK287.out 0; have hfz16_1 := blk_frozen BK287.out 1) | (refine gc (some 40) Try.func73 #[.int .i64 t286] ?_; (with_reducible refine (spec_l1Size.calls k2 t286 t291 _ A11.out).mono ?_); rintro e w' ⟨rfl, ⟨nd, rfl⟩⟩; refine ⟨_, rfl, ?_⟩))
       go_roundg k2
       case measure => have := HK1.out; have := HK2.out; omega
       case rel => exact ⟨(y288), (wrap64 (x5_2 + t291)), zz1, H', ⟨by have := HK1.out; have := HK2.out; omega⟩, ⟨zz19 HO290⟩, ⟨zz6 GE287⟩⟩
      ·have H' := Aside0.mk H
       clear H
       obtain ⟨⟨ad283, e283, hx283_0, hx283_1⟩, p283, q283⟩ := wi (at_T72 HR0.out x4_1)
       obtain rfl : ad282 = ad283 := (by injection e283)
       replace hx283_0 := (HB.out.cell (World.block_lt_of_cell? w _ hx283_0)).trans hx283_0
       replace hx283_1 := (HB.out.cell (World.block_lt_of_cell? w _ hx283_1)).trans hx283_1
       go_wp2
       go_roundg k2
       case measure => have := HK1.out; have := HK2.out; omega
       case rel => exact ⟨(x3_2), (wrap64 (x4_1 + 1)), zz1, H', ⟨by have := HK1.out; have := HK2.out; omega⟩, ⟨zz12 HO_3⟩, ⟨zz5⟩⟩
   ·obtain rfl := Option.some.inj H
    go_wp2
    go_ret
    exact ⟨_, zz8, zz12 HO_3, zz5⟩
def spec_l1In.f (a0 : Int) (a1 : Int) (a2 : Int) : Option (Bool) := if a0 ≥ a1 then (some (decide (a0 ≤ a2))) else (some false)
set_option maxHeartbeats 8000000 in
set_option maxRecDepth 100000 in
theorem spec_l1In.calls (a0 : Int) (a1 : Int) (a2 : Int) (r : Bool) (w : World) (h : spec_l1In.f a0 a1 a2 = some r) :
  Calls Try.prog 58 #[.int .i64 a0, .int .i64 a1, .int .i64 a2] w fun e w' => e = .returned (.bool r) ∧ Drawn0 w w' := by
 have H : (if a0 ≥ a1 then (some (decide (a0 ≤ a2))) else (some false)) = some r := h
 clear h
 replace H := ic H
 rcases H with ⟨c4b0, H⟩ | ⟨c4b0, H⟩
 ·obtain rfl := Option.some.inj H
  go_enter Try.func58, Try.ntmps58
  go_wp2
  go_ret
  exact ⟨zz1, zz2⟩
 ·obtain rfl := Option.some.inj H
  go_enter Try.func58, Try.ntmps58
  go_wp2
  go_ret
  exact ⟨zz1, zz2⟩
def spec_l1Addr.f (a0 : Int) : Option (Bool) := (spec_l1In.f a0 0 4294967295).bind fun t292 => (some t292)
set_option maxHeartbeats 8000000 in
set_option maxRecDepth 100000 in
theorem spec_l1Addr.calls (a0 : Int) (r : Bool) (w : World) (h : spec_l1Addr.f a0 = some r) :
  Calls Try.prog 48 #[.int .i64 a0] w fun e w' => e = .returned (.bool r) ∧ Drawn0 w w' := by
 have H : ((spec_l1In.f a0 0 4294967295).bind fun t292 => (some t292)) = some r := h
 clear h
 replace H := bd H
 obtain ⟨t292, A2, H⟩ := H
 replace H : (some t292) = some r := H
 obtain rfl := Option.some.inj H
 go_enter Try.func48, Try.ntmps48
 go_wp2_with (first | (refine gc (some 4) Try.func58 #[.int .i64 a0, .int .i64 0, .int .i64 4294967295] ?_; (with_reducible refine (spec_l1In.calls a0 0 4294967295 t292 _ A2.out).mono ?_); rintro e w' ⟨rfl, ⟨nd, rfl⟩⟩; refine ⟨_, rfl, ?_⟩))
 go_ret
 exact ⟨zz1, zz2⟩
end Go.Proofs.Ythkjkmgbdahggaa.PL
