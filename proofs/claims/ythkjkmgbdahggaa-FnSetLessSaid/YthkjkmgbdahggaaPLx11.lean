/- A text printed by this session's wip/myprint.py over the kit's print: contracts of functions of the given program, each at what its Lean function says. -/
import Derived.Test.YthkjkmgbdahggaaPLx0
import Derived.Test.YthkjkmgbdahggaaPLx10
namespace Go.Proofs.Ythkjkmgbdahggaa.PL
open Go.RowKit Go.Proofs.YthkjkmgbdahggaaW.PrintWords Go.Proofs.YthkjkmgbdahggaaW.PrintLast Go.Proofs.YthkjkmgbdahggaaW.PrintMore Go.Proofs.Ythkjkmgbdahggaa.Sq
attribute [local go_sem] max2_int min2_int max_two min_two max_three min_three max_four min_four   -- for this text's walks alone
set_option linter.unusedVariables false
set_option linter.unusedSimpArgs false
mutual
def spec_l2Spans.l0 : Nat → List (S40) → List (S72) → Int → Option ((List (S72)))
 | 0, _, _, _ => none
 | k + 1, x0, x3, x4 => if x4 < (x0.length : Int) then (if 0 ≤ x4 then ((spec_l1Last.f k ((rd_T40 x0 x4).f0) ((rd_T40 x0 x4).f1)).bind fun t309 => (spec_l2Spans.l1 k x0 x3 x4 0 ((rd_T40 x0 x4).f0) t309)) else (none)) else (spec_l2Spans.l2 k x3 (([] : List (S72))) 0)
def spec_l2Spans.l1 : Nat → List (S40) → List (S72) → Int → Int → Int → Int → Option ((List (S72)))
 | 0, _, _, _, _, _, _ => none
 | k + 1, x0, x3, x4, x6, x311000, x311001 => if x6 < (x3.length : Int) then (if 0 ≤ x6 then (if ((rd_T72 x3 x6).f0) < x311000 then (spec_l2Spans.l1 k x0 x3 x4 (wrap64 (x6 + 1)) x311000 x311001) else ((some (([] : List (S72)) : List (S72))).bind fun y312 => (if x6 ≤ (x3.length : Int) then ((some (x3.take (x6 : Int).toNat : List (S72))).bind fun y315 => (if y312.length + y315.length < 8796093022208 then ((some (y312 ++ y315 : List (S72))).bind fun y319 => ((some (([(⟨x311000, x311001⟩ : S72)] : List (S72)) : List (S72))).bind fun y322 => (if y319.length + y322.length < 8796093022208 then ((some (y319 ++ y322 : List (S72))).bind fun y325 => ((some (x3.drop (x6 : Int).toNat : List (S72))).bind fun y328 => (if y325.length + y328.length < 8796093022208 then (spec_l2Spans.l0 k x0 (y325 ++ y328) (wrap64 (x4 + 1))) else (none)))) else (none)))) else (none))) else (none)))) else (none)) else ((some (([] : List (S72)) : List (S72))).bind fun y335 => (if 0 ≤ x6 then (if x6 ≤ (x3.length : Int) then ((some (x3.take (x6 : Int).toNat : List (S72))).bind fun y338 => (if y335.length + y338.length < 8796093022208 then ((some (y335 ++ y338 : List (S72))).bind fun y342 => ((some (([(⟨x311000, x311001⟩ : S72)] : List (S72)) : List (S72))).bind fun y345 => (if y342.length + y345.length < 8796093022208 then ((some (y342 ++ y345 : List (S72))).bind fun y348 => ((some (x3.drop (x6 : Int).toNat : List (S72))).bind fun y351 => (if y348.length + y351.length < 8796093022208 then (spec_l2Spans.l0 k x0 (y348 ++ y351) (wrap64 (x4 + 1))) else (none)))) else (none)))) else (none))) else (none)) else (none)))
def spec_l2Spans.l2 : Nat → List (S72) → List (S72) → Int → Option ((List (S72)))
 | 0, _, _, _ => none
 | k + 1, x3, x7, x8 => if x8 < (x3.length : Int) then (if (wrap64 ((x7.length : Int) - 1)) ≥ 0 then (if 0 ≤ x8 then (if 0 ≤ (wrap64 ((x7.length : Int) - 1)) then (if (wrap64 ((x7.length : Int) - 1)) < (x7.length : Int) then (spec_l2Spans.j3 k x3 x7 x8 (wrap64 ((x7.length : Int) - 1)) (decide (((rd_T72 x3 x8).f0) ≤ (wrap64 (((rd_T72 x7 (wrap64 ((x7.length : Int) - 1))).f1) + 1))))) else (none)) else (none)) else (none)) else (spec_l2Spans.j3 k x3 x7 x8 (wrap64 ((x7.length : Int) - 1)) false)) else (some x7)
def spec_l2Spans.j3 : Nat → List (S72) → List (S72) → Int → Int → Bool → Option ((List (S72)))
 | 0, _, _, _, _, _ => none
 | k + 1, x3, x7, x8, x9, x81 => if x81 = true then (if 0 ≤ x8 then (if x8 < (x3.length : Int) then (if 0 ≤ x9 then (if x9 < (x7.length : Int) then (if ((rd_T72 x3 x8).f1) > ((rd_T72 x7 x9).f1) then (spec_l2Spans.l2 k x3 (x7.set (x9 : Int).toNat (⟨(rd_T72 x7 x9).f0, (rd_T72 x3 x8).f1⟩ : S72)) (wrap64 (x8 + 1))) else (spec_l2Spans.l2 k x3 x7 (wrap64 (x8 + 1)))) else (none)) else (none)) else (none)) else (none)) else (if 0 ≤ x8 then (if x8 < (x3.length : Int) then ((some (([(⟨(rd_T72 x3 x8).f0, (rd_T72 x3 x8).f1⟩ : S72)] : List (S72)) : List (S72))).bind fun y368 => (if x7.length + y368.length < 8796093022208 then (spec_l2Spans.l2 k x3 (x7 ++ y368) (wrap64 (x8 + 1))) else (none))) else (none)) else (none))
end
def spec_l2Spans.f (k : Nat) (l0 : List (S40)) : Option ((List (S72))) := spec_l2Spans.l0 k l0 (([] : List (S72))) 0
def spec_l2Spans.T5 : Bool × List (List Nat × List Nat) := (true, [([], []), ([], []), ([0, 1], [0, 1]), ([2], [2]), ([3], [3]), ([], []), ([], []), ([5, 6], [5, 6]), ([7], [7]), ([8], [8]), ([4, 9], [4, 9]), ([], []), ([11, 10, 9, 0, 1, 2, 3, 4, 5, 6, 7, 8, 9, 10, 11], [10, 11])])
def spec_l2Spans.B5 : List Nat := [0, 0, 3, 7, 15, 0, 0, 96, 224, 480, 1023, 0, 4095]
theorem spec_l2Spans.tab5 : rtab .any (opsOf Try.f67 5) = spec_l2Spans.T5 := by kernel_rfl
theorem spec_l2Spans.bits5 : waitsOk spec_l2Spans.T5.2 spec_l2Spans.B5 = true := by kernel_rfl
def spec_l2Spans.T7 : Bool × List (List Nat × List Nat) := (true, [([], []), ([], []), ([1], [1]), ([0, 2], [0, 2]), ([3], [3]), ([4], [4]), ([4], [4]), ([5, 6, 4], [4, 5, 6]), ([7, 4], [4, 7]), ([8, 4], [4, 8]), ([4], [4]), ([10, 4], [4, 10]), ([9, 11, 4], [4, 9, 11]), ([4, 12], [4, 12])])
def spec_l2Spans.B7 : List Nat := [0, 0, 2, 7, 15, 31, 31, 127, 255, 511, 31, 1055, 4095, 8191]
theorem spec_l2Spans.tab7 : rtab .any (opsOf Try.f67 7) = spec_l2Spans.T7 := by kernel_rfl
theorem spec_l2Spans.bits7 : waitsOk spec_l2Spans.T7.2 spec_l2Spans.B7 = true := by kernel_rfl
def spec_l2Spans.T9 : Bool × List (List Nat × List Nat) := (true, [([], []), ([], []), ([], []), ([1, 2], [1, 2]), ([0, 3], [0, 3]), ([], []), ([5], [5]), ([4, 6, 4], [4, 6]), ([], []), ([], []), ([8, 9], [8, 9]), ([7, 10, 7], [7, 10]), ([11, 11, 0, 1, 2, 3, 4, 5, 6, 7, 8, 9, 10, 11], [1, 8, 11])])
def spec_l2Spans.B9 : List Nat := [0, 0, 0, 6, 15, 0, 32, 127, 0, 0, 768, 2047, 4095]
theorem spec_l2Spans.tab9 : rtab .any (opsOf Try.f67 9) = spec_l2Spans.T9 := by kernel_rfl
theorem spec_l2Spans.bits9 : waitsOk spec_l2Spans.T9.2 spec_l2Spans.B9 = true := by kernel_rfl
def spec_l2Spans.T15 : Bool × List (List Nat × List Nat) := (true, [([], []), ([0], [0]), ([1], [1]), ([2], [2]), ([2], [2]), ([3, 4, 2], [2, 3, 4]), ([5, 2], [2, 5]), ([6, 2], [2, 6]), ([2], [2]), ([2], [2]), ([8, 9, 2], [2, 8, 9]), ([10, 2], [2, 10]), ([11, 2], [2, 11]), ([12, 2], [2, 12]), ([7, 13, 2], [2, 7, 13]), ([2, 14], [2, 14])])
def spec_l2Spans.B15 : List Nat := [0, 1, 3, 7, 7, 31, 63, 127, 7, 7, 775, 1799, 3847, 7943, 16383, 32767]
theorem spec_l2Spans.tab15 : rtab .any (opsOf Try.f67 15) = spec_l2Spans.T15 := by kernel_rfl
theorem spec_l2Spans.bits15 : waitsOk spec_l2Spans.T15.2 spec_l2Spans.B15 = true := by kernel_rfl
def spec_l2Spans.T16 : Bool × List (List Nat × List Nat) := (true, [([], []), ([], []), ([0, 1], [0, 1]), ([2], [2]), ([3], [3]), ([], []), ([], []), ([5, 6], [5, 6]), ([7], [7]), ([8], [8]), ([4, 9], [4, 9])])
def spec_l2Spans.B16 : List Nat := [0, 0, 3, 7, 15, 0, 0, 96, 224, 480, 1023]
theorem spec_l2Spans.tab16 : rtab .any (opsOf Try.f67 16) = spec_l2Spans.T16 := by kernel_rfl
theorem spec_l2Spans.bits16 : waitsOk spec_l2Spans.T16.2 spec_l2Spans.B16 = true := by kernel_rfl
set_option maxHeartbeats 8000000 in
set_option maxRecDepth 100000 in
theorem spec_l2Spans.calls (k : Nat) (A0 : Option Addr) (c0 : Nat) (l0 : List (S40)) (r : List (S72)) (w : World) (hr0 : Kd.C k40 w A0 l0.length l0) (hc0 : l0.length ≤ c0) (h : spec_l2Spans.f k l0 = some r) :
  Calls Try.prog 67 #[.slice A0 l0.length c0] w fun e w' => ∃ v0_ : Value, e = .returned (v0_) ∧ Kd.R k72 72 w' w.heap.size (fun _ => True) v0_ r ∧ Below w.heap.size w w' := by
 have hu40 := Try.underlying40
 have hu72 := Try.underlying72
 have HR0 := Aside0.mk hr0
 have HC0 := Aside0.mk hc0
 clear hr0 hc0
 have HB := Aside0.mk (Below.refl w.heap.size w)
 have H : (spec_l2Spans.l0 k l0 (([] : List (S72))) 0) = some r := h
 clear h
 obtain ⟨y304, hy304⟩ : ∃ y_ : List (S72), y_ = (([] : List (S72))) := ⟨_, rfl⟩
 replace H : (spec_l2Spans.l0 k l0 y304 0) = some r := by first | (rw [hy304]; with_reducible exact H) | (have H2_ := (Option.bind_some _ _).symm.trans H; rw [hy304]; with_reducible exact H2_) | (have H2_ := (Option.bind_some _ _).symm.trans H; with_reducible exact H2_) | with_reducible exact H | (rw [hy304]; exact H) | exact H
 have Ny304 := Aside0.mk hy304
 clear hy304
 have H' := Aside0.mk H
 clear H
 go_enter Try.func67, Try.ntmps67
 go_wp2_with (first | (refine gt 10 ?_; refine rl k72 72 10 ([] : List (S72)) [] ?hp ?_; (case hp => exact zz34); intro v305 w2 ho3 hb hg_ hnew_; clear hg_ hnew_; (first | rw [← Ny304.out] at ho3 | (simp only [Int.reduceToNat] at ho3; rw [← Ny304.out] at ho3)); have HO306 := Aside0.mk (Kd.R_lower ho3 (below_size zz5)); replace HB := Aside0.mk (below_step zz5 hb); clear hb ho3))
 go_loopg [3, 4] k (fun kq v3 v4 w' => ∃ (x3_1 : List (S72)) (x4_1 : Int), v4 = .int .i64 x4_1 ∧ Aside0 (spec_l2Spans.l0 kq l0 x3_1 x4_1 = some r) ∧ Aside0 (kq ≤ k) ∧ Aside0 (Kd.R k72 72 w' w.heap.size (fun _ => True) v3 x3_1) ∧ Aside0 (Below w.heap.size w w'))
 case atStart => exact ⟨(y304), (0), zz1, H', ⟨Nat.le_refl _⟩, ⟨zz12 HO306⟩, ⟨zz5⟩⟩
 case round =>
  clear H'
  try clear p2
  obtain ⟨x3_1, x4_1, rfl, HA, HK1, HO_3, HB⟩ := hrel
  cases gk with
  | zero => exact absurd HA.out (by simp [spec_l2Spans.l0])
  | succ k1 =>
   have H := HA.out
   clear HA
   simp only [spec_l2Spans.l0] at H
   replace H := ic H
   rcases H with ⟨c4b0, H⟩ | ⟨c4b0, H⟩
   ·replace H := gd H
    obtain ⟨c5b0, H⟩ := H
    replace H := bd H
    obtain ⟨t309, A6, H⟩ := H
    replace H : (spec_l2Spans.l1 k1 l0 x3_1 x4_1 0 ((rd_T40 l0 x4_1).f0) t309) = some r := H
    have H' := Aside0.mk H
    clear H
    try go_wp2
    replace HO_3 := Aside0.mk (Kd.R_drew HO_3.out)
    replace HB := Aside0.mk (below_drew1 HB.out)
    obtain ⟨⟨ad307, e307, hx307_0, hx307_1⟩, p307, q307⟩ := wi (at_T40 HR0.out x4_1)
    have hw307_1 := hx307_1
    have hw307_0 := hx307_0
    cases e307
    replace hx307_0 := (HB.out.cell (World.block_lt_of_cell? w _ hx307_0)).trans hx307_0
    replace hx307_1 := (HB.out.cell (World.block_lt_of_cell? w _ hx307_1)).trans hx307_1
    obtain ⟨⟨ad308, e308, hx308_0, hx308_1⟩, p308, q308⟩ := wi (at_T40 HR0.out x4_1)
    have hw308_1 := hx308_1
    have hw308_0 := hx308_0
    obtain rfl : ad307 = ad308 := (by injection e308)
    replace hx308_0 := (HB.out.cell (World.block_lt_of_cell? w _ hx308_0)).trans hx308_0
    replace hx308_1 := (HB.out.cell (World.block_lt_of_cell? w _ hx308_1)).trans hx308_1
    refine start_ (n := 13) (S := fun w' => w'.cell? (ad307.add ((x4_1).toNat * 2)) = some (.int .i64 ((rd_T40 l0 x4_1).f0)) ∧ w'.cell? ⟨(ad307.add ((x4_1).toNat * 2)).block, (ad307.add ((x4_1).toNat * 2)).off + 1, none⟩ = some (.int .i64 ((rd_T40 l0 x4_1).f1)) ∧ w'.cell? (ad307.add ((x4_1).toNat * 2)) = some (.int .i64 ((rd_T40 l0 x4_1).f0)) ∧ w'.cell? ⟨(ad307.add ((x4_1).toNat * 2)).block, (ad307.add ((x4_1).toNat * 2)).off + 1, none⟩ = some (.int .i64 ((rd_T40 l0 x4_1).f1))) (ds := []) (bm 13 0) (by kernel_rfl) rfl rfl ⟨((HB.out.cell (World.block_lt_of_cell? w _ hw307_0)).trans hw307_0), ((HB.out.cell (World.block_lt_of_cell? w _ hw307_1)).trans hw307_1), ((HB.out.cell (World.block_lt_of_cell? w _ hw308_0)).trans hw308_0), ((HB.out.cell (World.block_lt_of_cell? w _ hw308_1)).trans hw308_1)⟩ (fun hHeld => ?_); refine with_tabW spec_l2Spans.tab5 spec_l2Spans.bits5 (fun HT_ HW_ => ?_)
    generalize wr.drew = w7 at HO_3 HB hx307_0 hx307_1 hx308_0 hx308_1 hHeld ⊢
    refine pu 0 17 (bm 13 1) ?_
    refine pu 1 18 (bm 13 3) ?_
    refine pu 2 19 (bm 13 7) ?_
    refine pu 3 20 (bm 13 15) ?_
    refine pu 5 22 (bm 13 47) ?_
    refine pu 6 23 (bm 13 111) ?_
    refine pu 7 24 (bm 13 239) ?_
    refine tk 4 21 (bm 13 255) ?_
    refine tk 8 25 (bm 13 511) ?_
    refine join_ (σ := Nat) 1 (bm 13 4095) (fun s_ => [(26, .int .i64 t309), (5, .pointer (some ⟨s_, 0, none⟩)), (27, .agg #[.int .i64 ((rd_T40 l0 x4_1).f0), .int .i64 t309])]) (fun s_ w' => (w'.cell? (ad307.add ((x4_1).toNat * 2)) = some (.int .i64 ((rd_T40 l0 x4_1).f0)) ∧ w'.cell? ⟨(ad307.add ((x4_1).toNat * 2)).block, (ad307.add ((x4_1).toNat * 2)).off + 1, none⟩ = some (.int .i64 ((rd_T40 l0 x4_1).f1)) ∧ w'.cell? (ad307.add ((x4_1).toNat * 2)) = some (.int .i64 ((rd_T40 l0 x4_1).f0)) ∧ w'.cell? ⟨(ad307.add ((x4_1).toNat * 2)).block, (ad307.add ((x4_1).toNat * 2)).off + 1, none⟩ = some (.int .i64 ((rd_T40 l0 x4_1).f1))) ∧ (Kd.R k72 72 w' w.heap.size (fun k_ => k_ ≠ s_) u3 x3_1) ∧ (w'.heap[s_]? = some (.cells #[.int .i64 0, .int .i64 0] 72 (0, 0))) ∧ (w.heap.size ≤ s_) ∧ (w.heap.size ≤ s_) ∧ (Below w.heap.size w w')) ?_ ?_
    rotate_left
    ·intro hCont
     refine two_ (i := 9) (j := 11) (Ni := some 26) (Nj := some 5) (bm 13 1023) (bm 13 2559) rfl rfl rfl rfl (two_of HT_.out (by kernel_rfl)) (by decide) (by decide) (fun K hK => ?_) (fun K hK => ?_)
     ·skip
      refine gs Try.func59 #[.agg #[.int .i64 ((rd_T40 l0 x4_1).f0), .int .i64 ((rd_T40 l0 x4_1).f1)]] ?_
      with_reducible refine (spec_l1Last.calls k1 ((rd_T40 l0 x4_1).f0) ((rd_T40 l0 x4_1).f1) t309 _ A6.out).mono ?_
      rintro e w8 ⟨rfl, hb⟩
      refine ⟨_, rfl, ?_⟩
      replace HO_3 := Aside0.mk (Kd.R_below (zz12 HO_3) hb)
      replace HB := Aside0.mk (below_step zz5 hb)
      (try clear hb)
      (try clear hb2)
      (try clear hk)
      (try clear hi)
      refine hK.out _ _ ⟨((HB.out.cell (World.block_lt_of_cell? w _ hw307_0)).trans hw307_0), ((HB.out.cell (World.block_lt_of_cell? w _ hw307_1)).trans hw307_1), ((HB.out.cell (World.block_lt_of_cell? w _ hw308_0)).trans hw308_0), ((HB.out.cell (World.block_lt_of_cell? w _ hw308_1)).trans hw308_1)⟩ (fun hHeld => ?_)
      clear hK K
      refine nm 26 ?_
      refine pu 10 27 (bm 13 2047) ?_
      refine on 11 (some 5) (bm 13 4095) (fun K hK => ?_)
      refine bs 5 #[.int .i64 0, .int .i64 0] 72 ?_
      intro gb310 hg w9 hbox hb
      replace HO_3 := Aside0.mk (Kd.R_below (Kd.R_elderB (zz12 HO_3) gb310 (Nat.le_of_eq hg.symm)) hb)
      have BK310 := Aside0.mk hbox
      have GW310 := Aside0.mk (zz4 : w.heap.size ≤ gb310)
      have GE310 := Aside0.mk (zz4 : w.heap.size ≤ gb310)
      replace HB := Aside0.mk (below_step zz5 hb)
      clear hb hbox hg
      refine hK.out _ _ ⟨((HB.out.cell (World.block_lt_of_cell? w _ hw307_0)).trans hw307_0), ((HB.out.cell (World.block_lt_of_cell? w _ hw307_1)).trans hw307_1), ((HB.out.cell (World.block_lt_of_cell? w _ hw308_0)).trans hw308_0), ((HB.out.cell (World.block_lt_of_cell? w _ hw308_1)).trans hw308_1)⟩ (fun hHeld => ?_)
      clear hK K
      refine nm 5 ?_
      exact norm_ zz44 (hCont (gb310) _ ⟨hHeld, (zz21 HO_3), (zz7 BK310), GW310.out, GE310.out, (zz6 GE310)⟩)
     ·skip
      refine bs 5 #[.int .i64 0, .int .i64 0] 72 ?_
      intro gb310 hg w8 hbox hb
      replace HO_3 := Aside0.mk (Kd.R_below (Kd.R_elderB (zz12 HO_3) gb310 (Nat.le_of_eq hg.symm)) hb)
      have BK310 := Aside0.mk hbox
      have GW310 := Aside0.mk (zz4 : w.heap.size ≤ gb310)
      have GE310 := Aside0.mk (zz4 : w.heap.size ≤ gb310)
      replace HB := Aside0.mk (below_step zz5 hb)
      clear hb hbox hg
      refine hK.out _ _ ⟨((HB.out.cell (World.block_lt_of_cell? w _ hw307_0)).trans hw307_0), ((HB.out.cell (World.block_lt_of_cell? w _ hw307_1)).trans hw307_1), ((HB.out.cell (World.block_lt_of_cell? w _ hw308_0)).trans hw308_0), ((HB.out.cell (World.block_lt_of_cell? w _ hw308_1)).trans hw308_1)⟩ (fun hHeld => ?_)
      clear hK K
      refine nm 5 ?_
      refine on 9 (some 26) (bm 13 3071) (fun K hK => ?_)
      refine gs Try.func59 #[.agg #[.int .i64 ((rd_T40 l0 x4_1).f0), .int .i64 ((rd_T40 l0 x4_1).f1)]] ?_
      with_reducible refine (spec_l1Last.calls k1 ((rd_T40 l0 x4_1).f0) ((rd_T40 l0 x4_1).f1) t309 _ A6.out).mono ?_
      rintro e w9 ⟨rfl, hb⟩
      refine ⟨_, rfl, ?_⟩
      replace HO_3 := Aside0.mk (Kd.R_below (zz12 HO_3) hb)
      replace BK310 := Aside0.mk (blk_below (g := gb310) (o := .cells #[.int .i64 0, .int .i64 0] 72 (0, 0)) (zz7 BK310) hb)
      replace HB := Aside0.mk (below_step (zz6 GE310) hb)
      (try clear hb)
      (try clear hb2)
      (try clear hk)
      (try clear hi)
      refine hK.out _ _ ⟨((HB.out.cell (World.block_lt_of_cell? w _ hw307_0)).trans hw307_0), ((HB.out.cell (World.block_lt_of_cell? w _ hw307_1)).trans hw307_1), ((HB.out.cell (World.block_lt_of_cell? w _ hw308_0)).trans hw308_0), ((HB.out.cell (World.block_lt_of_cell? w _ hw308_1)).trans hw308_1)⟩ (fun hHeld => ?_)
      clear hK K
      refine nm 26 ?_
      refine pu 10 27 (bm 13 4095) ?_
      exact norm_ zz44 (hCont (gb310) _ ⟨hHeld, (zz21 HO_3), (zz7 BK310), GW310.out, GE310.out, (zz6 GE310)⟩)
    rintro gb310 w10 ⟨hS_, h0_, h1_, h2_, h3_, h4_⟩
    replace HO_3 : Aside0 (Kd.R k72 72 w10 w.heap.size (fun k_ => k_ ≠ gb310) u3 x3_1) := ⟨h0_⟩
    have BK310 : Aside0 (w10.heap[gb310]? = some (.cells #[.int .i64 0, .int .i64 0] 72 (0, 0))) := ⟨h1_⟩
    have GW310 : Aside0 (w.heap.size ≤ gb310) := ⟨h2_⟩
    have GE310 : Aside0 (w.heap.size ≤ gb310) := ⟨h3_⟩
    replace HB : Aside0 (Below w.heap.size w w10) := ⟨h4_⟩
    clear h0_ h1_ h2_ h3_ h4_
    have hHeld : w10.cell? (ad307.add ((x4_1).toNat * 2)) = some (.int .i64 ((rd_T40 l0 x4_1).f0)) ∧ w10.cell? ⟨(ad307.add ((x4_1).toNat * 2)).block, (ad307.add ((x4_1).toNat * 2)).off + 1, none⟩ = some (.int .i64 ((rd_T40 l0 x4_1).f1)) ∧ w10.cell? (ad307.add ((x4_1).toNat * 2)) = some (.int .i64 ((rd_T40 l0 x4_1).f0)) ∧ w10.cell? ⟨(ad307.add ((x4_1).toNat * 2)).block, (ad307.add ((x4_1).toNat * 2)).off + 1, none⟩ = some (.int .i64 ((rd_T40 l0 x4_1).f1)) := hS_
    refine norm_ (a' := ?_) ?_ ?_
    rotate_left
    ·simp only [putAll, Act.put, List.setIfInBounds_toArray, List.set_cons_zero, List.set_cons_succ]
     rfl
    refine on 12 none (bm 13 8191) (fun K hK => ?_)
    have hs11 : w10.cell? ⟨gb310, 0, none⟩ = some (.int .i64 0) := (blk_cell BK310.out 0).trans rfl
    have hfs11 := blk_frozen BK310.out 0
    have hs12 : w10.cell? ⟨gb310, 1, none⟩ = some (.int .i64 0) := (blk_cell BK310.out 1).trans rfl
    have hfs12 := blk_frozen BK310.out 1
    refine skip_ (w1 := ?_) (by rfl) rfl ?_ ?_
    rotate_left
    ·go_simp
     rfl
    refine hK.out _ _ ⟨((cell_far (p := ⟨gb310, _, none⟩) (by first | exact Nat.ne_of_lt (Nat.lt_of_lt_of_le (by have := World.block_lt_of_cell? _ _ hw307_0; first | rwa [add_block] at this | exact this) GW310.out) | (rw [add_block]; exact Nat.ne_of_lt (Nat.lt_of_lt_of_le (by have := World.block_lt_of_cell? _ _ hw307_0; first | rwa [add_block] at this | exact this) GW310.out)) | (show (Addr.add _ _).block ≠ _; rw [add_block]; exact Nat.ne_of_lt (Nat.lt_of_lt_of_le (by have := World.block_lt_of_cell? _ _ hw307_0; first | rwa [add_block] at this | exact this) GW310.out)) | (dsimp only; exact Nat.ne_of_lt (Nat.lt_of_lt_of_le (by have := World.block_lt_of_cell? _ _ hw307_0; first | rwa [add_block] at this | exact this) GW310.out))) _).trans (((cell_far (p := ⟨gb310, _, none⟩) (by first | exact Nat.ne_of_lt (Nat.lt_of_lt_of_le (by have := World.block_lt_of_cell? _ _ hw307_0; first | rwa [add_block] at this | exact this) GW310.out) | (rw [add_block]; exact Nat.ne_of_lt (Nat.lt_of_lt_of_le (by have := World.block_lt_of_cell? _ _ hw307_0; first | rwa [add_block] at this | exact this) GW310.out)) | (show (Addr.add _ _).block ≠ _; rw [add_block]; exact Nat.ne_of_lt (Nat.lt_of_lt_of_le (by have := World.block_lt_of_cell? _ _ hw307_0; first | rwa [add_block] at this | exact this) GW310.out)) | (dsimp only; exact Nat.ne_of_lt (Nat.lt_of_lt_of_le (by have := World.block_lt_of_cell? _ _ hw307_0; first | rwa [add_block] at this | exact this) GW310.out))) _).trans (hHeld.1)))), ((cell_far (p := ⟨gb310, _, none⟩) (by first | exact Nat.ne_of_lt (Nat.lt_of_lt_of_le (by have := World.block_lt_of_cell? _ _ hw307_1; first | rwa [add_block] at this | exact this) GW310.out) | (rw [add_block]; exact Nat.ne_of_lt (Nat.lt_of_lt_of_le (by have := World.block_lt_of_cell? _ _ hw307_1; first | rwa [add_block] at this | exact this) GW310.out)) | (show (Addr.add _ _).block ≠ _; rw [add_block]; exact Nat.ne_of_lt (Nat.lt_of_lt_of_le (by have := World.block_lt_of_cell? _ _ hw307_1; first | rwa [add_block] at this | exact this) GW310.out)) | (dsimp only; exact Nat.ne_of_lt (Nat.lt_of_lt_of_le (by have := World.block_lt_of_cell? _ _ hw307_1; first | rwa [add_block] at this | exact this) GW310.out))) _).trans (((cell_far (p := ⟨gb310, _, none⟩) (by first | exact Nat.ne_of_lt (Nat.lt_of_lt_of_le (by have := World.block_lt_of_cell? _ _ hw307_1; first | rwa [add_block] at this | exact this) GW310.out) | (rw [add_block]; exact Nat.ne_of_lt (Nat.lt_of_lt_of_le (by have := World.block_lt_of_cell? _ _ hw307_1; first | rwa [add_block] at this | exact this) GW310.out)) | (show (Addr.add _ _).block ≠ _; rw [add_block]; exact Nat.ne_of_lt (Nat.lt_of_lt_of_le (by have := World.block_lt_of_cell? _ _ hw307_1; first | rwa [add_block] at this | exact this) GW310.out)) | (dsimp only; exact Nat.ne_of_lt (Nat.lt_of_lt_of_le (by have := World.block_lt_of_cell? _ _ hw307_1; first | rwa [add_block] at this | exact this) GW310.out))) _).trans (hHeld.2.1)))), ((cell_far (p := ⟨gb310, _, none⟩) (by first | exact Nat.ne_of_lt (Nat.lt_of_lt_of_le (by have := World.block_lt_of_cell? _ _ hw308_0; first | rwa [add_block] at this | exact this) GW310.out) | (rw [add_block]; exact Nat.ne_of_lt (Nat.lt_of_lt_of_le (by have := World.block_lt_of_cell? _ _ hw308_0; first | rwa [add_block] at this | exact this) GW310.out)) | (show (Addr.add _ _).block ≠ _; rw [add_block]; exact Nat.ne_of_lt (Nat.lt_of_lt_of_le (by have := World.block_lt_of_cell? _ _ hw308_0; first | rwa [add_block] at this | exact this) GW310.out)) | (dsimp only; exact Nat.ne_of_lt (Nat.lt_of_lt_of_le (by have := World.block_lt_of_cell? _ _ hw308_0; first | rwa [add_block] at this | exact this) GW310.out))) _).trans (((cell_far (p := ⟨gb310, _, none⟩) (by first | exact Nat.ne_of_lt (Nat.lt_of_lt_of_le (by have := World.block_lt_of_cell? _ _ hw308_0; first | rwa [add_block] at this | exact this) GW310.out) | (rw [add_block]; exact Nat.ne_of_lt (Nat.lt_of_lt_of_le (by have := World.block_lt_of_cell? _ _ hw308_0; first | rwa [add_block] at this | exact this) GW310.out)) | (show (Addr.add _ _).block ≠ _; rw [add_block]; exact Nat.ne_of_lt (Nat.lt_of_lt_of_le (by have := World.block_lt_of_cell? _ _ hw308_0; first | rwa [add_block] at this | exact this) GW310.out)) | (dsimp only; exact Nat.ne_of_lt (Nat.lt_of_lt_of_le (by have := World.block_lt_of_cell? _ _ hw308_0; first | rwa [add_block] at this | exact this) GW310.out))) _).trans (hHeld.2.2.1)))), ((cell_far (p := ⟨gb310, _, none⟩) (by first | exact Nat.ne_of_lt (Nat.lt_of_lt_of_le (by have := World.block_lt_of_cell? _ _ hw308_1; first | rwa [add_block] at this | exact this) GW310.out) | (rw [add_block]; exact Nat.ne_of_lt (Nat.lt_of_lt_of_le (by have := World.block_lt_of_cell? _ _ hw308_1; first | rwa [add_block] at this | exact this) GW310.out)) | (show (Addr.add _ _).block ≠ _; rw [add_block]; exact Nat.ne_of_lt (Nat.lt_of_lt_of_le (by have := World.block_lt_of_cell? _ _ hw308_1; first | rwa [add_block] at this | exact this) GW310.out)) | (dsimp only; exact Nat.ne_of_lt (Nat.lt_of_lt_of_le (by have := World.block_lt_of_cell? _ _ hw308_1; first | rwa [add_block] at this | exact this) GW310.out))) _).trans (((cell_far (p := ⟨gb310, _, none⟩) (by first | exact Nat.ne_of_lt (Nat.lt_of_lt_of_le (by have := World.block_lt_of_cell? _ _ hw308_1; first | rwa [add_block] at this | exact this) GW310.out) | (rw [add_block]; exact Nat.ne_of_lt (Nat.lt_of_lt_of_le (by have := World.block_lt_of_cell? _ _ hw308_1; first | rwa [add_block] at this | exact this) GW310.out)) | (show (Addr.add _ _).block ≠ _; rw [add_block]; exact Nat.ne_of_lt (Nat.lt_of_lt_of_le (by have := World.block_lt_of_cell? _ _ hw308_1; first | rwa [add_block] at this | exact this) GW310.out)) | (dsimp only; exact Nat.ne_of_lt (Nat.lt_of_lt_of_le (by have := World.block_lt_of_cell? _ _ hw308_1; first | rwa [add_block] at this | exact this) GW310.out))) _).trans (hHeld.2.2.2))))⟩ (fun hHeld => ?_)
    clear hK K
    refine done_ (done_of HT_.out (by kernel_rfl)) ?_
    try go_wp2
    go_loopg [6] k1 (fun kq v6 w' => ∃ (x6_2 : Int), v6 = .int .i64 x6_2 ∧ Aside0 (spec_l2Spans.l1 kq l0 x3_1 x4_1 x6_2 ((rd_T40 l0 x4_1).f0) t309 = some r) ∧ Aside0 (kq ≤ k1) ∧ Aside0 (Kd.R k72 72 w' w.heap.size (fun k_ => k_ ≠ gb310) u3 x3_1) ∧ Aside0 (w'.heap[gb310]? = some (.cells #[.int .i64 ((rd_T40 l0 x4_1).f0), .int .i64 t309] 72 (0, 0))) ∧ Aside0 (Below w.heap.size w w'))
    case atStart => exact ⟨(0), zz1, H', ⟨Nat.le_refl _⟩, ⟨by (with_reducible repeat (first | apply Kd.R_alloc | apply Kd.R_drewN | apply Kd.R_drew)); exact Kd.R_mono (Kd.R_far (p := ⟨gb310, 1, none⟩) (Kd.R_far (p := ⟨gb310, 0, none⟩) (Kd.R_mono HO_3.out (fun k_ hk => (⟨hk, hk⟩ : _ ∧ k_ ≠ gb310))) (fun _ hk => hk.2) (.int .i64 ((rd_T40 l0 x4_1).f0))) (fun _ hk => hk.2) (.int .i64 t309)) (fun _ hk => hk.1)⟩, ⟨by (with_reducible repeat (first | refine blk_drewN ?_ _ | refine blk_drew ?_ | refine blk_alloc ?_ _)); refine blk_put (cs := #[.int .i64 ((rd_T40 l0 x4_1).f0), .int .i64 0]) ?_ 1 _ rfl; (with_reducible repeat (first | refine blk_drewN ?_ _ | refine blk_drew ?_ | refine blk_alloc ?_ _)); refine blk_put (cs := #[.int .i64 0, .int .i64 0]) ?_ 0 _ rfl; (with_reducible repeat (first | refine blk_drewN ?_ _ | refine blk_drew ?_ | refine blk_alloc ?_ _)); exact BK310.out⟩, ⟨zz6 GE310⟩⟩
    case round =>
     clear H'
     try clear p2
     try clear p3
     try clear q3
     try clear hx3
     try clear c4
     try clear c4b0
     try clear c5
     try clear c5b0
     try clear c6
     try clear hx307_0
     try clear hx307_1
     try clear hx308_0
     try clear hx308_1
     try clear p2
     try clear p307
     try clear p308
     try clear q307
     try clear q308
     obtain ⟨x6_2, rfl, HA, HK2, HO_3, BK310, HB⟩ := hrel
     cases gk with
     | zero => exact absurd HA.out (by simp [spec_l2Spans.l1])
     | succ k2 =>
      have H := HA.out
      clear HA
      simp only [spec_l2Spans.l1] at H
      replace H := ic H
      rcases H with ⟨c13b0, H⟩ | ⟨c13b0, H⟩
      ·replace H := gd H
       obtain ⟨c14b0, H⟩ := H
       replace H := ic H
       rcases H with ⟨c15b0, H⟩ | ⟨c15b0, H⟩
       ·have H' := Aside0.mk H
        clear H
        try go_wp2
        replace HO_3 := Aside0.mk (Kd.R_drew HO_3.out)
        replace BK310 := Aside0.mk (blk_drew BK310.out)
        replace HB := Aside0.mk (below_drew1 HB.out)
        obtain ⟨Ao17, co17, eo17⟩ := Kd.R_slice HO_3.out
        (first | subst eo17 | (injection eo17 with f1_ f2_ f3_; have f4_ := f1_.symm; have f5_ := f3_.symm; clear f1_ f2_ f3_; subst f4_; subst f5_))
        obtain ⟨⟨ad311, e311, hx311_0, hx311_1⟩, p311, q311⟩ := wi (at_T72 (Kd.R_reads' HO_3.out).2.2 x6_2)
        cases e311
        refine start_ (n := 14) (S := fun w' => w'.cell? ⟨gb310, 0, none⟩ = some (.int .i64 ((rd_T40 l0 x4_1).f0)) ∧ w'.cell? ⟨gb310, 1, none⟩ = some (.int .i64 t309) ∧ w'.cell? (ad311.add ((x6_2).toNat * 2)) = some (.int .i64 ((rd_T72 x3_1 x6_2).f0)) ∧ w'.cell? ⟨(ad311.add ((x6_2).toNat * 2)).block, (ad311.add ((x6_2).toNat * 2)).off + 1, none⟩ = some (.int .i64 ((rd_T72 x3_1 x6_2).f1))) (ds := []) (bm 14 0) (by kernel_rfl) rfl rfl ⟨(blk_cell BK310.out 0).trans rfl, (blk_cell BK310.out 1).trans rfl, hx311_0, hx311_1⟩ (fun hHeld => ?_); refine with_tabW spec_l2Spans.tab7 spec_l2Spans.bits7 (fun HT_ HW_ => ?_)
        generalize wr.drew = w16 at HO_3 BK310 HB hx311_0 hx311_1 hHeld ⊢
        refine pu 0 28 (bm 14 1) ?_
        refine pu 1 29 (bm 14 3) ?_
        refine pu 2 30 (bm 14 7) ?_
        refine pu 3 31 (bm 14 15) ?_
        refine pu 4 32 (bm 14 31) ?_
        refine pu 5 33 (bm 14 63) ?_
        refine pu 6 34 (bm 14 127) ?_
        refine pu 7 35 (bm 14 255) ?_
        refine pu 8 36 (bm 14 511) ?_
        refine pu 10 38 (bm 14 1535) ?_
        refine tk 9 37 (bm 14 2047) ?_
        refine tk 11 39 (bm 14 4095) ?_
        refine pu 12 40 (bm 14 8191) ?_
        refine pu 13 41 (bm 14 16383) ?_
        refine done_ (done_of HT_.out (by kernel_rfl)) ?_
        try go_wp2
        go_roundg k2
        case measure => have := HK1.out; have := HK2.out; omega
        case rel => exact ⟨(wrap64 (x6_2 + 1)), zz1, H', ⟨by have := HK1.out; have := HK2.out; omega⟩, ⟨zz12 HO_3⟩, ⟨zz7 BK310⟩, ⟨zz6 GE310⟩⟩
       ·obtain ⟨y312, hy312⟩ : ∃ y_ : List (S72), y_ = (([] : List (S72))) := ⟨_, rfl⟩
        replace H : (if x6_2 ≤ (x3_1.length : Int) then ((some (x3_1.take (x6_2 : Int).toNat : List (S72))).bind fun y315 => (if y312.length + y315.length < 8796093022208 then ((some (y312 ++ y315 : List (S72))).bind fun y319 => ((some (([(⟨((rd_T40 l0 x4_1).f0), t309⟩ : S72)] : List (S72)) : List (S72))).bind fun y322 => (if y319.length + y322.length < 8796093022208 then ((some (y319 ++ y322 : List (S72))).bind fun y325 => ((some (x3_1.drop (x6_2 : Int).toNat : List (S72))).bind fun y328 => (if y325.length + y328.length < 8796093022208 then (spec_l2Spans.l0 k2 l0 (y325 ++ y328) (wrap64 (x4_1 + 1))) else (none)))) else (none)))) else (none))) else (none)) = some r := by first | (rw [hy312]; with_reducible exact H) | (have H2_ := (Option.bind_some _ _).symm.trans H; rw [hy312]; with_reducible exact H2_) | (have H2_ := (Option.bind_some _ _).symm.trans H; with_reducible exact H2_) | with_reducible exact H | (rw [hy312]; exact H) | exact H
        have Ny312 := Aside0.mk hy312
        clear hy312
        have c18b0 := eq_true (of_decide_eq_true zz10 : 0 ≤ x6_2)
        replace H := gp H
        obtain ⟨c19, H⟩ := H
        have c19b0 := eq_true c19
        have c19b1 : decide (x6_2 ≤ (x3_1.length : Int)) = true := decide_eq_true c19
        clear c19
        obtain ⟨y315, hy315⟩ : ∃ y_ : List (S72), y_ = (x3_1.take (x6_2 : Int).toNat) := ⟨_, rfl⟩
        replace H : (if y312.length + y315.length < 8796093022208 then ((some (y312 ++ y315 : List (S72))).bind fun y319 => ((some (([(⟨((rd_T40 l0 x4_1).f0), t309⟩ : S72)] : List (S72)) : List (S72))).bind fun y322 => (if y319.length + y322.length < 8796093022208 then ((some (y319 ++ y322 : List (S72))).bind fun y325 => ((some (x3_1.drop (x6_2 : Int).toNat : List (S72))).bind fun y328 => (if y325.length + y328.length < 8796093022208 then (spec_l2Spans.l0 k2 l0 (y325 ++ y328) (wrap64 (x4_1 + 1))) else (none)))) else (none)))) else (none)) = some r := by first | (rw [hy315]; with_reducible exact H) | (have H2_ := (Option.bind_some _ _).symm.trans H; rw [hy315]; with_reducible exact H2_) | (have H2_ := (Option.bind_some _ _).symm.trans H; with_reducible exact H2_) | with_reducible exact H | (rw [hy315]; exact H) | exact H
        have Ny315 := Aside0.mk hy315
        clear hy315
        replace H := gp H
        obtain ⟨c20, H⟩ := H
        have LMc20 := Aside0.mk c20
        clear c20
        obtain ⟨y319, hy319⟩ : ∃ y_ : List (S72), y_ = (y312 ++ y315) := ⟨_, rfl⟩
        replace H : ((some (([(⟨((rd_T40 l0 x4_1).f0), t309⟩ : S72)] : List (S72)) : List (S72))).bind fun y322 => (if y319.length + y322.length < 8796093022208 then ((some (y319 ++ y322 : List (S72))).bind fun y325 => ((some (x3_1.drop (x6_2 : Int).toNat : List (S72))).bind fun y328 => (if y325.length + y328.length < 8796093022208 then (spec_l2Spans.l0 k2 l0 (y325 ++ y328) (wrap64 (x4_1 + 1))) else (none)))) else (none))) = some r := by first | (rw [hy319]; with_reducible exact H) | (have H2_ := (Option.bind_some _ _).symm.trans H; rw [hy319]; with_reducible exact H2_) | (have H2_ := (Option.bind_some _ _).symm.trans H; with_reducible exact H2_) | with_reducible exact H | (rw [hy319]; exact H) | exact H
        have Ny319 := Aside0.mk hy319
        clear hy319
        obtain ⟨y322, hy322⟩ : ∃ y_ : List (S72), y_ = (([(⟨((rd_T40 l0 x4_1).f0), t309⟩ : S72)] : List (S72))) := ⟨_, rfl⟩
        replace H : (if y319.length + y322.length < 8796093022208 then ((some (y319 ++ y322 : List (S72))).bind fun y325 => ((some (x3_1.drop (x6_2 : Int).toNat : List (S72))).bind fun y328 => (if y325.length + y328.length < 8796093022208 then (spec_l2Spans.l0 k2 l0 (y325 ++ y328) (wrap64 (x4_1 + 1))) else (none)))) else (none)) = some r := by first | (rw [hy322]; with_reducible exact H) | (have H2_ := (Option.bind_some _ _).symm.trans H; rw [hy322]; with_reducible exact H2_) | (have H2_ := (Option.bind_some _ _).symm.trans H; with_reducible exact H2_) | with_reducible exact H | (rw [hy322]; exact H) | exact H
        have Ny322 := Aside0.mk hy322
        clear hy322
        replace H := gp H
        obtain ⟨c21, H⟩ := H
        have LMc21 := Aside0.mk c21
        clear c21
        obtain ⟨y325, hy325⟩ : ∃ y_ : List (S72), y_ = (y319 ++ y322) := ⟨_, rfl⟩
        replace H : ((some (x3_1.drop (x6_2 : Int).toNat : List (S72))).bind fun y328 => (if y325.length + y328.length < 8796093022208 then (spec_l2Spans.l0 k2 l0 (y325 ++ y328) (wrap64 (x4_1 + 1))) else (none))) = some r := by first | (rw [hy325]; with_reducible exact H) | (have H2_ := (Option.bind_some _ _).symm.trans H; rw [hy325]; with_reducible exact H2_) | (have H2_ := (Option.bind_some _ _).symm.trans H; with_reducible exact H2_) | with_reducible exact H | (rw [hy325]; exact H) | exact H
        have Ny325 := Aside0.mk hy325
        clear hy325
        have c22b0 := eq_true (of_decide_eq_true zz10 : 0 ≤ x6_2)
        have c23b0 := eq_true (of_decide_eq_true zz10 : x6_2 ≤ (x3_1.length : Int))
        obtain ⟨y328, hy328⟩ : ∃ y_ : List (S72), y_ = (x3_1.drop (x6_2 : Int).toNat) := ⟨_, rfl⟩
        replace H : (if y325.length + y328.length < 8796093022208 then (spec_l2Spans.l0 k2 l0 (y325 ++ y328) (wrap64 (x4_1 + 1))) else (none)) = some r := by first | (rw [hy328]; with_reducible exact H) | (have H2_ := (Option.bind_some _ _).symm.trans H; rw [hy328]; with_reducible exact H2_) | (have H2_ := (Option.bind_some _ _).symm.trans H; with_reducible exact H2_) | with_reducible exact H | (rw [hy328]; exact H) | exact H
        have Ny328 := Aside0.mk hy328
        clear hy328
        replace H := gp H
        obtain ⟨c24, H⟩ := H
        have LMc24 := Aside0.mk c24
        clear c24
        obtain ⟨y332, hy332⟩ : ∃ y_ : List (S72), y_ = (y325 ++ y328) := ⟨_, rfl⟩
        replace H : (spec_l2Spans.l0 k2 l0 y332 (wrap64 (x4_1 + 1))) = some r := by first | (rw [hy332]; with_reducible exact H) | (have H2_ := (Option.bind_some _ _).symm.trans H; rw [hy332]; with_reducible exact H2_) | (have H2_ := (Option.bind_some _ _).symm.trans H; with_reducible exact H2_) | with_reducible exact H | (rw [hy332]; exact H) | exact H
        have Ny332 := Aside0.mk hy332
        clear hy332
        have H' := Aside0.mk H
        clear H
        try go_wp2
        replace HO_3 := Aside0.mk (Kd.R_drew HO_3.out)
        replace BK310 := Aside0.mk (blk_drew BK310.out)
        replace HB := Aside0.mk (below_drew1 HB.out)
        obtain ⟨Ao26, co26, eo26⟩ := Kd.R_slice HO_3.out
        (first | subst eo26 | (injection eo26 with f1_ f2_ f3_; have f4_ := f1_.symm; have f5_ := f3_.symm; clear f1_ f2_ f3_; subst f4_; subst f5_))
        obtain ⟨⟨ad311, e311, hx311_0, hx311_1⟩, p311, q311⟩ := wi (at_T72 (Kd.R_reads' HO_3.out).2.2 x6_2)
        cases e311
        refine start_ (n := 14) (S := fun w' => w'.cell? ⟨gb310, 0, none⟩ = some (.int .i64 ((rd_T40 l0 x4_1).f0)) ∧ w'.cell? ⟨gb310, 1, none⟩ = some (.int .i64 t309) ∧ w'.cell? (ad311.add ((x6_2).toNat * 2)) = some (.int .i64 ((rd_T72 x3_1 x6_2).f0)) ∧ w'.cell? ⟨(ad311.add ((x6_2).toNat * 2)).block, (ad311.add ((x6_2).toNat * 2)).off + 1, none⟩ = some (.int .i64 ((rd_T72 x3_1 x6_2).f1))) (ds := []) (bm 14 0) (by kernel_rfl) rfl rfl ⟨(blk_cell BK310.out 0).trans rfl, (blk_cell BK310.out 1).trans rfl, hx311_0, hx311_1⟩ (fun hHeld => ?_); refine with_tabW spec_l2Spans.tab7 spec_l2Spans.bits7 (fun HT_ HW_ => ?_)
        generalize wr.drew = w25 at HO_3 BK310 HB hx311_0 hx311_1 hHeld ⊢
        refine pu 0 28 (bm 14 1) ?_
        refine pu 1 29 (bm 14 3) ?_
        refine pu 2 30 (bm 14 7) ?_
        refine pu 3 31 (bm 14 15) ?_
        refine pu 4 32 (bm 14 31) ?_
        refine pu 5 33 (bm 14 63) ?_
        refine pu 6 34 (bm 14 127) ?_
        refine pu 7 35 (bm 14 255) ?_
        refine pu 8 36 (bm 14 511) ?_
        refine pu 10 38 (bm 14 1535) ?_
        refine tk 9 37 (bm 14 2047) ?_
        refine tk 11 39 (bm 14 4095) ?_
        refine pu 12 40 (bm 14 8191) ?_
        refine pu 13 41 (bm 14 16383) ?_
        refine done_ (done_of HT_.out (by kernel_rfl)) ?_
        try go_wp2
        replace HO_3 := Aside0.mk (Kd.R_drew HO_3.out)
        replace BK310 := Aside0.mk (blk_drew BK310.out)
        replace HB := Aside0.mk (below_drew1 HB.out)
        have q28 : (x6_2 : Int) ≤ ((x3_1.length : Int) : Int) := da
        obtain ⟨i028, hi028, _, hsz28, _⟩ := info_parts info72
        have hroom28 : x3_1.length ≤ co26 := (Kd.R_reads' HO_3.out).2.1
        have hC28 : Kd.C k72 _ (some ad311) x3_1.length x3_1 := (Kd.R_reads' HO_3.out).2.2
        have hcut28 := cut_to (P := Try.prog) 73 72 .i64 Try.underlying73 hi028 (some ad311) x3_1.length co26 x6_2 (of_decide_eq_true zz10) q28 hroom28
        have hr28 := Kd.C_take (m := (x6_2 : Int).toNat) hC28 (by omega)
        have hy28 : y315.length = (x6_2 : Int).toNat := (by rw [Ny315.out, List.length_take]; omega)
        rw [← Ny315.out] at hr28
        rw [← hy28] at hcut28
        have HR318 := Aside0.mk hr28
        have HC318 := Aside0.mk (show y315.length ≤ co26 from by omega)
        clear hr28 hC28 hroom28 hi028 hsz28
        have KY28 := Aside0.mk hy28
        clear hy28
        have KL28 := Aside0.mk (show (x6_2 : Int).toNat ≤ x3_1.length from by omega)
        replace q28 := eq_true q28
        have q29 : (x6_2 : Int) ≤ ((x3_1.length : Int) : Int) := da
        obtain ⟨i029, hi029, _, hsz29, _⟩ := info_parts info72
        have hroom29 : x3_1.length ≤ co26 := (Kd.R_reads' HO_3.out).2.1
        have hC29 : Kd.C k72 _ (some ad311) x3_1.length x3_1 := (Kd.R_reads' HO_3.out).2.2
        have q029 : (0 : Int) ≤ (x6_2 : Int) := da
        have hcut29 := cut_from (P := Try.prog) 73 72 .i64 Try.underlying73 hi029 2 hsz29 (some ad311) x3_1.length co26 x6_2 q029 q29
        have hr29 := Kd.C_drop (m := (x6_2 : Int).toNat) (c := co26) hC29 (by omega) hroom29
        obtain ⟨A29, hA29⟩ : ∃ A1, A1 = (if co26 = (x6_2 : Int).toNat then (some ad311) else ((some ad311) : Option Addr).map (·.add ((x6_2 : Int).toNat * 2))) := ⟨_, rfl⟩
        obtain ⟨c29, hc29⟩ : ∃ c1, c1 = co26 - (x6_2 : Int).toNat := ⟨_, rfl⟩
        have hy29 : y328.length = x3_1.length - (x6_2 : Int).toNat := (by rw [Ny328.out, List.length_drop] <;> omega)
        rw [show (x3_1).drop (x6_2 : Int).toNat = y328 from Ny328.out.symm] at hr29
        replace hr29 : Kd.C k72 _ A29 y328.length y328 := (by rw [hA29]; exact hr29)
        rw [← hy29, ← hA29, ← hc29] at hcut29
        have HR331 := Aside0.mk hr29
        have HC331 := Aside0.mk (show y328.length ≤ c29 from by rw [hy29, hc29]; exact Nat.sub_le_sub_right hroom29 _)
        clear hr29 hC29 hroom29 hi029 hsz29 hc29
        have KY29 := Aside0.mk hy29
        have KA29 := Aside0.mk hA29
        clear hy29 hA29
        have KL29 := Aside0.mk (show (x6_2 : Int).toNat ≤ x3_1.length from by omega)
        replace q29 := eq_true q29
        refine start_ (n := 13) (S := fun w' => w'.cell? ⟨gb310, 0, none⟩ = some (.int .i64 ((rd_T40 l0 x4_1).f0)) ∧ w'.cell? ⟨gb310, 1, none⟩ = some (.int .i64 t309)) (ds := []) (bm 13 0) (by kernel_rfl) rfl rfl ⟨(blk_cell BK310.out 0).trans rfl, (blk_cell BK310.out 1).trans rfl⟩ (fun hHeld => ?_); refine with_tabW spec_l2Spans.tab9 spec_l2Spans.bits9 (fun HT_ HW_ => ?_)
        generalize w25.drew = w27 at HO_3 BK310 HB HR318 HR331 hHeld ⊢
        refine pu 1 45 (bm 13 2) ?_
        refine pu 2 46 (bm 13 6) ?_
        refine pu 3 47 (bm 13 14) ?_
        refine pu 8 52 (bm 13 270) ?_
        refine pu 9 53 (bm 13 782) ?_
        refine pu 10 54 (bm 13 1806) ?_
        refine tk 5 49 (bm 13 1838) ?_
        refine join_ (σ := Value × Value × Value) 3 (bm 13 1919) (fun s_ => [(44, s_.1), (48, s_.2.1), (50, s_.2.2)]) (fun s_ w' => (w'.cell? ⟨gb310, 0, none⟩ = some (.int .i64 ((rd_T40 l0 x4_1).f0)) ∧ w'.cell? ⟨gb310, 1, none⟩ = some (.int .i64 t309)) ∧ (Kd.R k72 72 w' w.heap.size (fun k_ => some k_ ≠ (s_.2.2 : Value).ownBlock ∧ some k_ ≠ (.slice (some ad311) x3_1.length co26 : Value).ownBlock ∧ k_ ≠ gb310) s_.2.1 y319) ∧ (Kd.R k72 72 w' w.heap.size (fun k_ => some k_ ≠ (s_.2.1 : Value).ownBlock ∧ some k_ ≠ (.slice (some ad311) x3_1.length co26 : Value).ownBlock ∧ k_ ≠ gb310) s_.2.2 y322) ∧ (Kd.R k72 72 w' w.heap.size (fun k_ => some k_ ≠ (s_.2.1 : Value).ownBlock ∧ some k_ ≠ (s_.2.2 : Value).ownBlock ∧ k_ ≠ gb310) (.slice (some ad311) x3_1.length co26) x3_1) ∧ (w'.heap[gb310]? = some (.cells #[.int .i64 ((rd_T40 l0 x4_1).f0), .int .i64 t309] 72 (0, 0))) ∧ (Below w.heap.size w w')) ?_ ?_
        rotate_left
        ·intro hCont
         refine two_ (i := 0) (j := 6) (Ni := some 44) (Nj := some 50) (bm 13 1839) (bm 13 1902) rfl rfl rfl rfl (two_of HT_.out (by kernel_rfl)) (by decide) (by decide) (fun K hK => ?_) (fun K hK => ?_)
         ·skip
          refine rls k72 72 44 ([] : List (S72)) [] ?hp ?_; (case hp => exact zz34)
          intro v313 w30 ho31 hb hg_ hnew_
          clear hg_ hnew_
          (first | rw [← Ny312.out] at ho31 | (simp only [Int.reduceToNat] at ho31; rw [← Ny312.out] at ho31))
          have HO314 := Aside0.mk (Kd.R_lower (Kd.R_newB (Kd.R_new' ho31 (Kd.R_lt (zz12 HO_3))) (g := gb310) (o := .cells #[.int .i64 ((rd_T40 l0 x4_1).f0), .int .i64 t309] 72 (0, 0)) (zz7 BK310)) (below_size (zz6 GE310)))
          replace HO_3 := Aside0.mk (Kd.R_elder' (zz12 HO_3) (Kd.R_base ho31) hb)
          replace BK310 := Aside0.mk (blk_below (g := gb310) (o := .cells #[.int .i64 ((rd_T40 l0 x4_1).f0), .int .i64 t309] 72 (0, 0)) (zz7 BK310) hb)
          replace HR318 := Aside0.mk (Kd.C_below (zz45 HR318) hb)
          replace HR331 := Aside0.mk (Kd.C_below (zz45 HR331) hb)
          replace HB := Aside0.mk (below_step (zz6 GE310) hb)
          clear hb ho31
          refine hK.out _ _ ⟨(blk_cell BK310.out 0).trans rfl, (blk_cell BK310.out 1).trans rfl⟩ (fun hHeld => ?_)
          clear hK K
          refine nm 44 ?_
          refine two_ (i := 4) (j := 6) (Ni := some 48) (Nj := some 50) (bm 13 1855) (bm 13 1903) rfl rfl rfl rfl (two_of HT_.out (by kernel_rfl)) (by decide) (by decide) (fun K hK => ?_) (fun K hK => ?_)
          ·skip
           refine Kd.R_append_rows_step k72 (w0 := w) w.heap.size (by rfl) (.tmp 44) (.tmp 47) 73 72 (.agg #[(.int .i64 0), (.int .i64 0)]) 16 rfl Try.underlying73 info72 rfl (by decide) (by omega) v313 y312 y315 _ _ _ (fun k_ => some k_ ≠ (.slice (some ad311) x3_1.length co26 : Value).ownBlock ∧ k_ ≠ gb310) (fun _ => False) rfl rfl ?aO ?aR (fun _ _ h => h) (fun _ h => h.elim) ?aF ?aB ?aS ?aL ?_
           (case aR => exact zz46 HR318)
           (case aB => exact zz6 GE310)
           (case aF => exact (fun k_ hk => ⟨Kd.fresh' (Kd.R_lt (zz12 HO_3)) k_ hk, Kd.freshB (g := gb310) (o := .cells #[.int .i64 ((rd_T40 l0 x4_1).f0), .int .i64 t309] 72 (0, 0)) (zz7 BK310) k_ hk⟩))
           (case aO => exact zz47 HO314)
           (case aS => exact zz14 GE310)
           (case aL => exact zz3 LMc20)
           intro v320 w32 ho hb hg hat
           rw [← Ny319.out] at ho
           replace BK310 := Aside0.mk (blk_grown (g := gb310) (o := .cells #[.int .i64 ((rd_T40 l0 x4_1).f0), .int .i64 t309] 72 (0, 0)) (zz7 BK310) hg (Kd.R_away HO314.out (fun _ hk => hk.2)))
           replace HB := Aside0.mk hb
           replace HR318 := Aside0.mk (show Kd.C k72 w32 (some ad311) y315.length y315 from by rw [Ny315.out]; exact Kd.C_take (m := (x6_2 : Int).toNat) ((Kd.R_reads' (Kd.R_after (ok := (fun k_ => k_ ≠ gb310)) (zz12 HO_3) hg hat)).2.2) KL28.out)
           replace HR331 := Aside0.mk (show Kd.C k72 w32 A29 y328.length y328 from by rw [Ny328.out, KA29.out]; exact Kd.C_drop (m := (x6_2 : Int).toNat) (c := co26) ((Kd.R_reads' (Kd.R_after (ok := (fun k_ => k_ ≠ gb310)) (zz12 HO_3) hg hat)).2.2) KL29.out ((Kd.R_reads' (Kd.R_after (ok := (fun k_ => k_ ≠ gb310)) (zz12 HO_3) hg hat)).2.1))
           replace HO_3 := Aside0.mk (Kd.R_after (ok := (fun k_ => k_ ≠ gb310)) (zz12 HO_3) hg hat)
           have HO321 := Aside0.mk ho
           clear HO314 ho hb hg hat
           refine hK.out _ _ ⟨(blk_cell BK310.out 0).trans rfl, (blk_cell BK310.out 1).trans rfl⟩ (fun hHeld => ?_)
           clear hK K
           refine nm 48 ?_
           refine on 6 (some 50) (bm 13 1919) (fun K hK => ?_)
           refine rls k72 72 50 ([(⟨((rd_T40 l0 x4_1).f0), t309⟩ : S72)] : List (S72)) [.int .i64 ((rd_T40 l0 x4_1).f0), .int .i64 t309] ?hp ?_; (case hp => exact (Reps.c2 (show Kd.M k72 _ _ _ (⟨((rd_T40 l0 x4_1).f0), t309⟩ : S72) [.int .i64 ((rd_T40 l0 x4_1).f0), .int .i64 t309] from (k72_mkM _ _ _ (⟨((rd_T40 l0 x4_1).f0), t309⟩ : S72) )) (Reps.none _ _)))
           intro v323 w33 ho34 hb hg_ hnew_
           clear hg_ hnew_
           (first | rw [← Ny322.out] at ho34 | (simp only [Int.reduceToNat] at ho34; rw [← Ny322.out] at ho34))
           have HO324 := Aside0.mk (Kd.R_lower (Kd.R_newB (Kd.R_new' (Kd.R_new' ho34 (Kd.R_lt (zz12 HO_3))) (Kd.R_lt (zz12 HO321))) (g := gb310) (o := .cells #[.int .i64 ((rd_T40 l0 x4_1).f0), .int .i64 t309] 72 (0, 0)) (zz7 BK310)) (below_size (zz6 GE310)))
           replace HO_3 := Aside0.mk (Kd.R_elder' (zz12 HO_3) (Kd.R_base ho34) hb)
           replace HO321 := Aside0.mk (Kd.R_elder' (zz12 HO321) (Kd.R_base ho34) hb)
           replace BK310 := Aside0.mk (blk_below (g := gb310) (o := .cells #[.int .i64 ((rd_T40 l0 x4_1).f0), .int .i64 t309] 72 (0, 0)) (zz7 BK310) hb)
           replace HR318 := Aside0.mk (Kd.C_below (zz45 HR318) hb)
           replace HR331 := Aside0.mk (Kd.C_below (zz45 HR331) hb)
           replace HB := Aside0.mk (below_step (zz6 GE310) hb)
           clear hb ho34
           refine hK.out _ _ ⟨(blk_cell BK310.out 0).trans rfl, (blk_cell BK310.out 1).trans rfl⟩ (fun hHeld => ?_)
           clear hK K
           refine nm 50 ?_
           exact norm_ zz44 (hCont (v313, v320, v323) _ ⟨hHeld, (zz48 HO321), (zz49 HO324), (zz50 HO_3), (zz7 BK310), (zz6 GE310)⟩)
          ·skip
           refine rls k72 72 50 ([(⟨((rd_T40 l0 x4_1).f0), t309⟩ : S72)] : List (S72)) [.int .i64 ((rd_T40 l0 x4_1).f0), .int .i64 t309] ?hp ?_; (case hp => exact (Reps.c2 (show Kd.M k72 _ _ _ (⟨((rd_T40 l0 x4_1).f0), t309⟩ : S72) [.int .i64 ((rd_T40 l0 x4_1).f0), .int .i64 t309] from (k72_mkM _ _ _ (⟨((rd_T40 l0 x4_1).f0), t309⟩ : S72) )) (Reps.none _ _)))
           intro v323 w32 ho33 hb hg_ hnew_
           clear hg_ hnew_
           (first | rw [← Ny322.out] at ho33 | (simp only [Int.reduceToNat] at ho33; rw [← Ny322.out] at ho33))
           have HO324 := Aside0.mk (Kd.R_lower (Kd.R_newB (Kd.R_new' (Kd.R_new' ho33 (Kd.R_lt (zz12 HO_3))) (Kd.R_lt (zz12 HO314))) (g := gb310) (o := .cells #[.int .i64 ((rd_T40 l0 x4_1).f0), .int .i64 t309] 72 (0, 0)) (zz7 BK310)) (below_size (zz6 GE310)))
           replace HO_3 := Aside0.mk (Kd.R_elder' (zz12 HO_3) (Kd.R_base ho33) hb)
           replace HO314 := Aside0.mk (Kd.R_elder' (zz12 HO314) (Kd.R_base ho33) hb)
           replace BK310 := Aside0.mk (blk_below (g := gb310) (o := .cells #[.int .i64 ((rd_T40 l0 x4_1).f0), .int .i64 t309] 72 (0, 0)) (zz7 BK310) hb)
           replace HR318 := Aside0.mk (Kd.C_below (zz45 HR318) hb)
           replace HR331 := Aside0.mk (Kd.C_below (zz45 HR331) hb)
           replace HB := Aside0.mk (below_step (zz6 GE310) hb)
           clear hb ho33
           refine hK.out _ _ ⟨(blk_cell BK310.out 0).trans rfl, (blk_cell BK310.out 1).trans rfl⟩ (fun hHeld => ?_)
           clear hK K
           refine nm 50 ?_
           refine on 4 (some 48) (bm 13 1919) (fun K hK => ?_)
           refine Kd.R_append_rows_step k72 (w0 := w) w.heap.size (by rfl) (.tmp 44) (.tmp 47) 73 72 (.agg #[(.int .i64 0), (.int .i64 0)]) 16 rfl Try.underlying73 info72 rfl (by decide) (by omega) v313 y312 y315 _ _ _ (fun k_ => some k_ ≠ (.slice (some ad311) x3_1.length co26 : Value).ownBlock ∧ some k_ ≠ (v323 : Value).ownBlock ∧ k_ ≠ gb310) (fun _ => False) rfl rfl ?aO ?aR (fun _ _ h => h) (fun _ h => h.elim) ?aF ?aB ?aS ?aL ?_
           (case aR => exact zz46 HR318)
           (case aB => exact zz6 GE310)
           (case aF => exact (fun k_ hk => ⟨Kd.fresh' (Kd.R_lt (zz12 HO_3)) k_ hk, Kd.fresh' (Kd.R_lt (zz12 HO324)) k_ hk, Kd.freshB (g := gb310) (o := .cells #[.int .i64 ((rd_T40 l0 x4_1).f0), .int .i64 t309] 72 (0, 0)) (zz7 BK310) k_ hk⟩))
           (case aO => exact zz51 HO314)
           (case aS => exact zz14 GE310)
           (case aL => exact zz3 LMc20)
           intro v320 w34 ho hb hg hat
           rw [← Ny319.out] at ho
           replace BK310 := Aside0.mk (blk_grown (g := gb310) (o := .cells #[.int .i64 ((rd_T40 l0 x4_1).f0), .int .i64 t309] 72 (0, 0)) (zz7 BK310) hg (Kd.R_away HO314.out (fun _ hk => hk.1.2)))
           replace HO324 := Aside0.mk (Kd.R_after (ok := (fun k_ => some k_ ≠ (.slice (some ad311) x3_1.length co26 : Value).ownBlock ∧ k_ ≠ gb310)) (zz52 HO324) hg hat)
           replace HB := Aside0.mk hb
           replace HR318 := Aside0.mk (show Kd.C k72 w34 (some ad311) y315.length y315 from by rw [Ny315.out]; exact Kd.C_take (m := (x6_2 : Int).toNat) ((Kd.R_reads' (Kd.R_after (ok := (fun k_ => some k_ ≠ (v323 : Value).ownBlock ∧ k_ ≠ gb310)) (zz53 HO_3) hg hat)).2.2) KL28.out)
           replace HR331 := Aside0.mk (show Kd.C k72 w34 A29 y328.length y328 from by rw [Ny328.out, KA29.out]; exact Kd.C_drop (m := (x6_2 : Int).toNat) (c := co26) ((Kd.R_reads' (Kd.R_after (ok := (fun k_ => some k_ ≠ (v323 : Value).ownBlock ∧ k_ ≠ gb310)) (zz53 HO_3) hg hat)).2.2) KL29.out ((Kd.R_reads' (Kd.R_after (ok := (fun k_ => some k_ ≠ (v323 : Value).ownBlock ∧ k_ ≠ gb310)) (zz53 HO_3) hg hat)).2.1))
           replace HO_3 := Aside0.mk (Kd.R_after (ok := (fun k_ => some k_ ≠ (v323 : Value).ownBlock ∧ k_ ≠ gb310)) (zz53 HO_3) hg hat)
           have HO321 := Aside0.mk ho
           clear HO314 ho hb hg hat
           refine hK.out _ _ ⟨(blk_cell BK310.out 0).trans rfl, (blk_cell BK310.out 1).trans rfl⟩ (fun hHeld => ?_)
           clear hK K
           refine nm 48 ?_
           exact norm_ zz44 (hCont (v313, v320, v323) _ ⟨hHeld, (zz54 HO321), (zz48 HO324), (zz48 HO_3), (zz7 BK310), (zz6 GE310)⟩)
         ·skip
          refine rls k72 72 50 ([(⟨((rd_T40 l0 x4_1).f0), t309⟩ : S72)] : List (S72)) [.int .i64 ((rd_T40 l0 x4_1).f0), .int .i64 t309] ?hp ?_; (case hp => exact (Reps.c2 (show Kd.M k72 _ _ _ (⟨((rd_T40 l0 x4_1).f0), t309⟩ : S72) [.int .i64 ((rd_T40 l0 x4_1).f0), .int .i64 t309] from (k72_mkM _ _ _ (⟨((rd_T40 l0 x4_1).f0), t309⟩ : S72) )) (Reps.none _ _)))
          intro v323 w30 ho31 hb hg_ hnew_
          clear hg_ hnew_
          (first | rw [← Ny322.out] at ho31 | (simp only [Int.reduceToNat] at ho31; rw [← Ny322.out] at ho31))
          have HO324 := Aside0.mk (Kd.R_lower (Kd.R_newB (Kd.R_new' ho31 (Kd.R_lt (zz12 HO_3))) (g := gb310) (o := .cells #[.int .i64 ((rd_T40 l0 x4_1).f0), .int .i64 t309] 72 (0, 0)) (zz7 BK310)) (below_size (zz6 GE310)))
          replace HO_3 := Aside0.mk (Kd.R_elder' (zz12 HO_3) (Kd.R_base ho31) hb)
          replace BK310 := Aside0.mk (blk_below (g := gb310) (o := .cells #[.int .i64 ((rd_T40 l0 x4_1).f0), .int .i64 t309] 72 (0, 0)) (zz7 BK310) hb)
          replace HR318 := Aside0.mk (Kd.C_below (zz45 HR318) hb)
          replace HR331 := Aside0.mk (Kd.C_below (zz45 HR331) hb)
          replace HB := Aside0.mk (below_step (zz6 GE310) hb)
          clear hb ho31
          refine hK.out _ _ ⟨(blk_cell BK310.out 0).trans rfl, (blk_cell BK310.out 1).trans rfl⟩ (fun hHeld => ?_)
          clear hK K
          refine nm 50 ?_
          refine on 0 (some 44) (bm 13 1903) (fun K hK => ?_)
          refine rls k72 72 44 ([] : List (S72)) [] ?hp ?_; (case hp => exact zz34)
          intro v313 w32 ho33 hb hg_ hnew_
          clear hg_ hnew_
          (first | rw [← Ny312.out] at ho33 | (simp only [Int.reduceToNat] at ho33; rw [← Ny312.out] at ho33))
          have HO314 := Aside0.mk (Kd.R_lower (Kd.R_newB (Kd.R_new' (Kd.R_new' ho33 (Kd.R_lt (zz12 HO_3))) (Kd.R_lt (zz12 HO324))) (g := gb310) (o := .cells #[.int .i64 ((rd_T40 l0 x4_1).f0), .int .i64 t309] 72 (0, 0)) (zz7 BK310)) (below_size (zz6 GE310)))
          replace HO_3 := Aside0.mk (Kd.R_elder' (zz12 HO_3) (Kd.R_base ho33) hb)
          replace HO324 := Aside0.mk (Kd.R_elder' (zz12 HO324) (Kd.R_base ho33) hb)
          replace BK310 := Aside0.mk (blk_below (g := gb310) (o := .cells #[.int .i64 ((rd_T40 l0 x4_1).f0), .int .i64 t309] 72 (0, 0)) (zz7 BK310) hb)
          replace HR318 := Aside0.mk (Kd.C_below (zz45 HR318) hb)
          replace HR331 := Aside0.mk (Kd.C_below (zz45 HR331) hb)
          replace HB := Aside0.mk (below_step (zz6 GE310) hb)
          clear hb ho33
          refine hK.out _ _ ⟨(blk_cell BK310.out 0).trans rfl, (blk_cell BK310.out 1).trans rfl⟩ (fun hHeld => ?_)
          clear hK K
          refine nm 44 ?_
          refine on 4 (some 48) (bm 13 1919) (fun K hK => ?_)
          refine Kd.R_append_rows_step k72 (w0 := w) w.heap.size (by rfl) (.tmp 44) (.tmp 47) 73 72 (.agg #[(.int .i64 0), (.int .i64 0)]) 16 rfl Try.underlying73 info72 rfl (by decide) (by omega) v313 y312 y315 _ _ _ (fun k_ => some k_ ≠ (.slice (some ad311) x3_1.length co26 : Value).ownBlock ∧ some k_ ≠ (v323 : Value).ownBlock ∧ k_ ≠ gb310) (fun _ => False) rfl rfl ?aO ?aR (fun _ _ h => h) (fun _ h => h.elim) ?aF ?aB ?aS ?aL ?_
          (case aR => exact zz46 HR318)
          (case aB => exact zz6 GE310)
          (case aF => exact (fun k_ hk => ⟨Kd.fresh' (Kd.R_lt (zz12 HO_3)) k_ hk, Kd.fresh' (Kd.R_lt (zz12 HO324)) k_ hk, Kd.freshB (g := gb310) (o := .cells #[.int .i64 ((rd_T40 l0 x4_1).f0), .int .i64 t309] 72 (0, 0)) (zz7 BK310) k_ hk⟩))
          (case aO => exact zz55 HO314)
          (case aS => exact zz14 GE310)
          (case aL => exact zz3 LMc20)
          intro v320 w34 ho hb hg hat
          rw [← Ny319.out] at ho
          replace BK310 := Aside0.mk (blk_grown (g := gb310) (o := .cells #[.int .i64 ((rd_T40 l0 x4_1).f0), .int .i64 t309] 72 (0, 0)) (zz7 BK310) hg (Kd.R_away HO314.out (fun _ hk => hk.2)))
          replace HO324 := Aside0.mk (Kd.R_after (ok := (fun k_ => some k_ ≠ (.slice (some ad311) x3_1.length co26 : Value).ownBlock ∧ k_ ≠ gb310)) (zz56 HO324) hg hat)
          replace HB := Aside0.mk hb
          replace HR318 := Aside0.mk (show Kd.C k72 w34 (some ad311) y315.length y315 from by rw [Ny315.out]; exact Kd.C_take (m := (x6_2 : Int).toNat) ((Kd.R_reads' (Kd.R_after (ok := (fun k_ => some k_ ≠ (v323 : Value).ownBlock ∧ k_ ≠ gb310)) (zz57 HO_3) hg hat)).2.2) KL28.out)
          replace HR331 := Aside0.mk (show Kd.C k72 w34 A29 y328.length y328 from by rw [Ny328.out, KA29.out]; exact Kd.C_drop (m := (x6_2 : Int).toNat) (c := co26) ((Kd.R_reads' (Kd.R_after (ok := (fun k_ => some k_ ≠ (v323 : Value).ownBlock ∧ k_ ≠ gb310)) (zz57 HO_3) hg hat)).2.2) KL29.out ((Kd.R_reads' (Kd.R_after (ok := (fun k_ => some k_ ≠ (v323 : Value).ownBlock ∧ k_ ≠ gb310)) (zz57 HO_3) hg hat)).2.1))
          replace HO_3 := Aside0.mk (Kd.R_after (ok := (fun k_ => some k_ ≠ (v323 : Value).ownBlock ∧ k_ ≠ gb310)) (zz57 HO_3) hg hat)
          have HO321 := Aside0.mk ho
          clear HO314 ho hb hg hat
          refine hK.out _ _ ⟨(blk_cell BK310.out 0).trans rfl, (blk_cell BK310.out 1).trans rfl⟩ (fun hHeld => ?_)
          clear hK K
          refine nm 48 ?_
          exact norm_ zz44 (hCont (v313, v320, v323) _ ⟨hHeld, (zz54 HO321), (zz48 HO324), (zz48 HO_3), (zz7 BK310), (zz6 GE310)⟩)
        rintro ⟨v313, v320, v323⟩ w35 ⟨hS_, h0_, h1_, h2_, h3_, h4_⟩
        have HO321 : Aside0 (Kd.R k72 72 w35 w.heap.size (fun k_ => some k_ ≠ (v323 : Value).ownBlock ∧ some k_ ≠ (.slice (some ad311) x3_1.length co26 : Value).ownBlock ∧ k_ ≠ gb310) v320 y319) := ⟨h0_⟩
        have HO324 : Aside0 (Kd.R k72 72 w35 w.heap.size (fun k_ => some k_ ≠ (v320 : Value).ownBlock ∧ some k_ ≠ (.slice (some ad311) x3_1.length co26 : Value).ownBlock ∧ k_ ≠ gb310) v323 y322) := ⟨h1_⟩
        replace HO_3 : Aside0 (Kd.R k72 72 w35 w.heap.size (fun k_ => some k_ ≠ (v320 : Value).ownBlock ∧ some k_ ≠ (v323 : Value).ownBlock ∧ k_ ≠ gb310) (.slice (some ad311) x3_1.length co26) x3_1) := ⟨h2_⟩
        replace BK310 : Aside0 (w35.heap[gb310]? = some (.cells #[.int .i64 ((rd_T40 l0 x4_1).f0), .int .i64 t309] 72 (0, 0))) := ⟨h3_⟩
        replace HB : Aside0 (Below w.heap.size w w35) := ⟨h4_⟩
        clear h0_ h1_ h2_ h3_ h4_
        have hHeld : w35.cell? ⟨gb310, 0, none⟩ = some (.int .i64 ((rd_T40 l0 x4_1).f0)) ∧ w35.cell? ⟨gb310, 1, none⟩ = some (.int .i64 t309) := hS_
        have HR318 := Aside0.mk (show Kd.C k72 w35 (some ad311) y315.length y315 from by rw [Ny315.out]; exact Kd.C_take (m := (x6_2 : Int).toNat) ((Kd.R_reads' HO_3.out).2.2) KL28.out)
        have HR331 := Aside0.mk (show Kd.C k72 w35 A29 y328.length y328 from by rw [Ny328.out, KA29.out]; exact Kd.C_drop (m := (x6_2 : Int).toNat) (c := co26) ((Kd.R_reads' HO_3.out).2.2) KL29.out ((Kd.R_reads' HO_3.out).2.1))
        obtain ⟨Ao37, co37, eo37⟩ := Kd.R_slice HO324.out
        (first | subst eo37 | (injection eo37 with f1_ f2_ f3_; have f4_ := f1_.symm; have f5_ := f3_.symm; clear f1_ f2_ f3_; subst f4_; subst f5_))
        refine norm_ (a' := ?_) ?_ ?_
        rotate_left
        ·simp only [putAll, Act.put, List.setIfInBounds_toArray, List.set_cons_zero, List.set_cons_succ]
         rfl
        refine on 7 (some 51) (bm 13 2047) (fun K hK => ?_)
        refine Kd.R_append_rows_step k72 (w0 := w) w.heap.size (by rfl) (.tmp 48) (.tmp 50) 73 72 (.agg #[(.int .i64 0), (.int .i64 0)]) 16 rfl Try.underlying73 info72 rfl (by decide) (by omega) v320 y319 y322 _ _ _ (fun k_ => some k_ ≠ (.slice (some ad311) x3_1.length co26 : Value).ownBlock ∧ some k_ ≠ (.slice Ao37 y322.length co37 : Value).ownBlock ∧ k_ ≠ gb310) (fun _ => False) rfl rfl ?aO ?aR (fun _ _ h => h) (fun _ h => h.elim) ?aF ?aB ?aS ?aL ?_
        (case aR => exact zz20 HO324)
        (case aB => exact zz6 GE310)
        (case aF => exact (fun k_ hk => ⟨Kd.fresh' (Kd.R_lt (zz12 HO_3)) k_ hk, Kd.fresh' (Kd.R_lt (zz12 HO324)) k_ hk, Kd.freshB (g := gb310) (o := .cells #[.int .i64 ((rd_T40 l0 x4_1).f0), .int .i64 t309] 72 (0, 0)) (zz7 BK310) k_ hk⟩))
        (case aO => exact zz54 HO321)
        (case aS => exact zz14 GE310)
        (case aL => exact zz3 LMc21)
        intro v326 w36 ho hb hg hat
        rw [← Ny325.out] at ho
        replace BK310 := Aside0.mk (blk_grown (g := gb310) (o := .cells #[.int .i64 ((rd_T40 l0 x4_1).f0), .int .i64 t309] 72 (0, 0)) (zz7 BK310) hg (Kd.R_away HO321.out (fun _ hk => hk.2.2)))
        replace HO324 := Aside0.mk (Kd.R_after (ok := (fun k_ => some k_ ≠ (.slice (some ad311) x3_1.length co26 : Value).ownBlock ∧ k_ ≠ gb310)) (zz58 HO324) hg hat)
        replace HB := Aside0.mk hb
        replace HR318 := Aside0.mk (show Kd.C k72 w36 (some ad311) y315.length y315 from by rw [Ny315.out]; exact Kd.C_take (m := (x6_2 : Int).toNat) ((Kd.R_reads' (Kd.R_after (ok := (fun k_ => some k_ ≠ (.slice Ao37 y322.length co37 : Value).ownBlock ∧ k_ ≠ gb310)) (zz58 HO_3) hg hat)).2.2) KL28.out)
        replace HR331 := Aside0.mk (show Kd.C k72 w36 A29 y328.length y328 from by rw [Ny328.out, KA29.out]; exact Kd.C_drop (m := (x6_2 : Int).toNat) (c := co26) ((Kd.R_reads' (Kd.R_after (ok := (fun k_ => some k_ ≠ (.slice Ao37 y322.length co37 : Value).ownBlock ∧ k_ ≠ gb310)) (zz58 HO_3) hg hat)).2.2) KL29.out ((Kd.R_reads' (Kd.R_after (ok := (fun k_ => some k_ ≠ (.slice Ao37 y322.length co37 : Value).ownBlock ∧ k_ ≠ gb310)) (zz58 HO_3) hg hat)).2.1))
        replace HO_3 := Aside0.mk (Kd.R_after (ok := (fun k_ => some k_ ≠ (.slice Ao37 y322.length co37 : Value).ownBlock ∧ k_ ≠ gb310)) (zz58 HO_3) hg hat)
        have HO327 := Aside0.mk ho
        clear HO321 ho hb hg hat
        refine hK.out _ _ ⟨(blk_cell BK310.out 0).trans rfl, (blk_cell BK310.out 1).trans rfl⟩ (fun hHeld => ?_)
        clear hK K
        refine nm 51 ?_
        refine on 11 (some 55) (bm 13 4095) (fun K hK => ?_)
        refine Kd.R_append_rows_step k72 (w0 := w) w.heap.size (by rfl) (.tmp 51) (.tmp 54) 73 72 (.agg #[(.int .i64 0), (.int .i64 0)]) 16 rfl Try.underlying73 info72 rfl (by decide) (by omega) v326 y325 y328 _ _ _ (fun k_ => some k_ ≠ (.slice (some ad311) x3_1.length co26 : Value).ownBlock ∧ some k_ ≠ (.slice Ao37 y322.length co37 : Value).ownBlock ∧ k_ ≠ gb310) (fun _ => False) rfl rfl ?aO ?aR (fun _ _ h => h) (fun _ h => h.elim) ?aF ?aB ?aS ?aL ?_
        (case aR => exact zz46 HR331)
        (case aB => exact zz6 GE310)
        (case aF => exact (fun k_ hk => ⟨Kd.fresh' (Kd.R_lt (zz12 HO_3)) k_ hk, Kd.fresh' (Kd.R_lt (zz12 HO324)) k_ hk, Kd.freshB (g := gb310) (o := .cells #[.int .i64 ((rd_T40 l0 x4_1).f0), .int .i64 t309] 72 (0, 0)) (zz7 BK310) k_ hk⟩))
        (case aO => exact zz12 HO327)
        (case aS => exact zz14 GE310)
        (case aL => exact zz3 LMc24)
        intro v333 w38 ho hb hg hat
        rw [← Ny332.out] at ho
        replace BK310 := Aside0.mk (blk_grown (g := gb310) (o := .cells #[.int .i64 ((rd_T40 l0 x4_1).f0), .int .i64 t309] 72 (0, 0)) (zz7 BK310) hg (Kd.R_away HO327.out (fun _ hk => hk.2.2)))
        replace HO324 := Aside0.mk (Kd.R_after (ok := (fun k_ => some k_ ≠ (.slice (some ad311) x3_1.length co26 : Value).ownBlock ∧ k_ ≠ gb310)) (zz12 HO324) hg hat)
        replace HB := Aside0.mk hb
        replace HR318 := Aside0.mk (show Kd.C k72 w38 (some ad311) y315.length y315 from by rw [Ny315.out]; exact Kd.C_take (m := (x6_2 : Int).toNat) ((Kd.R_reads' (Kd.R_after (ok := (fun k_ => some k_ ≠ (.slice Ao37 y322.length co37 : Value).ownBlock ∧ k_ ≠ gb310)) (zz12 HO_3) hg hat)).2.2) KL28.out)
        replace HR331 := Aside0.mk (show Kd.C k72 w38 A29 y328.length y328 from by rw [Ny328.out, KA29.out]; exact Kd.C_drop (m := (x6_2 : Int).toNat) (c := co26) ((Kd.R_reads' (Kd.R_after (ok := (fun k_ => some k_ ≠ (.slice Ao37 y322.length co37 : Value).ownBlock ∧ k_ ≠ gb310)) (zz12 HO_3) hg hat)).2.2) KL29.out ((Kd.R_reads' (Kd.R_after (ok := (fun k_ => some k_ ≠ (.slice Ao37 y322.length co37 : Value).ownBlock ∧ k_ ≠ gb310)) (zz12 HO_3) hg hat)).2.1))
        replace HO_3 := Aside0.mk (Kd.R_after (ok := (fun k_ => some k_ ≠ (.slice Ao37 y322.length co37 : Value).ownBlock ∧ k_ ≠ gb310)) (zz12 HO_3) hg hat)
        have HO334 := Aside0.mk ho
        clear HO327 ho hb hg hat
        refine hK.out _ _ ⟨(blk_cell BK310.out 0).trans rfl, (blk_cell BK310.out 1).trans rfl⟩ (fun hHeld => ?_)
        clear hK K
        refine nm 55 ?_
        refine pu 12 3 (bm 13 8191) ?_
        refine done_ (done_of HT_.out (by kernel_rfl)) ?_
        try go_wp2
        go_roundg k2
        case measure => have := HK1.out; have := HK2.out; omega
        case rel => exact ⟨(y332), (wrap64 (x4_1 + 1)), zz1, H', ⟨by have := HK1.out; have := HK2.out; omega⟩, ⟨zz19 HO334⟩, ⟨zz6 GE310⟩⟩
      ·obtain ⟨y335, hy335⟩ : ∃ y_ : List (S72), y_ = (([] : List (S72))) := ⟨_, rfl⟩
       replace H : (if 0 ≤ x6_2 then (if x6_2 ≤ (x3_1.length : Int) then ((some (x3_1.take (x6_2 : Int).toNat : List (S72))).bind fun y338 => (if y335.length + y338.length < 8796093022208 then ((some (y335 ++ y338 : List (S72))).bind fun y342 => ((some (([(⟨((rd_T40 l0 x4_1).f0), t309⟩ : S72)] : List (S72)) : List (S72))).bind fun y345 => (if y342.length + y345.length < 8796093022208 then ((some (y342 ++ y345 : List (S72))).bind fun y348 => ((some (x3_1.drop (x6_2 : Int).toNat : List (S72))).bind fun y351 => (if y348.length + y351.length < 8796093022208 then (spec_l2Spans.l0 k2 l0 (y348 ++ y351) (wrap64 (x4_1 + 1))) else (none)))) else (none)))) else (none))) else (none)) else (none)) = some r := by first | (rw [hy335]; with_reducible exact H) | (have H2_ := (Option.bind_some _ _).symm.trans H; rw [hy335]; with_reducible exact H2_) | (have H2_ := (Option.bind_some _ _).symm.trans H; with_reducible exact H2_) | with_reducible exact H | (rw [hy335]; exact H) | exact H
       have Ny335 := Aside0.mk hy335
       clear hy335
       replace H := gp H
       obtain ⟨c39, H⟩ := H
       have c39b0 := eq_true c39
       have c39b1 : decide (0 ≤ x6_2) = true := decide_eq_true c39
       clear c39
       replace H := gp H
       obtain ⟨c40, H⟩ := H
       have c40b0 := eq_true c40
       have c40b1 : decide (x6_2 ≤ (x3_1.length : Int)) = true := decide_eq_true c40
       clear c40
       obtain ⟨y338, hy338⟩ : ∃ y_ : List (S72), y_ = (x3_1.take (x6_2 : Int).toNat) := ⟨_, rfl⟩
       replace H : (if y335.length + y338.length < 8796093022208 then ((some (y335 ++ y338 : List (S72))).bind fun y342 => ((some (([(⟨((rd_T40 l0 x4_1).f0), t309⟩ : S72)] : List (S72)) : List (S72))).bind fun y345 => (if y342.length + y345.length < 8796093022208 then ((some (y342 ++ y345 : List (S72))).bind fun y348 => ((some (x3_1.drop (x6_2 : Int).toNat : List (S72))).bind fun y351 => (if y348.length + y351.length < 8796093022208 then (spec_l2Spans.l0 k2 l0 (y348 ++ y351) (wrap64 (x4_1 + 1))) else (none)))) else (none)))) else (none)) = some r := by first | (rw [hy338]; with_reducible exact H) | (have H2_ := (Option.bind_some _ _).symm.trans H; rw [hy338]; with_reducible exact H2_) | (have H2_ := (Option.bind_some _ _).symm.trans H; with_reducible exact H2_) | with_reducible exact H | (rw [hy338]; exact H) | exact H
       have Ny338 := Aside0.mk hy338
       clear hy338
       replace H := gp H
       obtain ⟨c41, H⟩ := H
       have LMc41 := Aside0.mk c41
       clear c41
       obtain ⟨y342, hy342⟩ : ∃ y_ : List (S72), y_ = (y335 ++ y338) := ⟨_, rfl⟩
       replace H : ((some (([(⟨((rd_T40 l0 x4_1).f0), t309⟩ : S72)] : List (S72)) : List (S72))).bind fun y345 => (if y342.length + y345.length < 8796093022208 then ((some (y342 ++ y345 : List (S72))).bind fun y348 => ((some (x3_1.drop (x6_2 : Int).toNat : List (S72))).bind fun y351 => (if y348.length + y351.length < 8796093022208 then (spec_l2Spans.l0 k2 l0 (y348 ++ y351) (wrap64 (x4_1 + 1))) else (none)))) else (none))) = some r := by first | (rw [hy342]; with_reducible exact H) | (have H2_ := (Option.bind_some _ _).symm.trans H; rw [hy342]; with_reducible exact H2_) | (have H2_ := (Option.bind_some _ _).symm.trans H; with_reducible exact H2_) | with_reducible exact H | (rw [hy342]; exact H) | exact H
       have Ny342 := Aside0.mk hy342
       clear hy342
       obtain ⟨y345, hy345⟩ : ∃ y_ : List (S72), y_ = (([(⟨((rd_T40 l0 x4_1).f0), t309⟩ : S72)] : List (S72))) := ⟨_, rfl⟩
       replace H : (if y342.length + y345.length < 8796093022208 then ((some (y342 ++ y345 : List (S72))).bind fun y348 => ((some (x3_1.drop (x6_2 : Int).toNat : List (S72))).bind fun y351 => (if y348.length + y351.length < 8796093022208 then (spec_l2Spans.l0 k2 l0 (y348 ++ y351) (wrap64 (x4_1 + 1))) else (none)))) else (none)) = some r := by first | (rw [hy345]; with_reducible exact H) | (have H2_ := (Option.bind_some _ _).symm.trans H; rw [hy345]; with_reducible exact H2_) | (have H2_ := (Option.bind_some _ _).symm.trans H; with_reducible exact H2_) | with_reducible exact H | (rw [hy345]; exact H) | exact H
       have Ny345 := Aside0.mk hy345
       clear hy345
       replace H := gp H
       obtain ⟨c42, H⟩ := H
       have LMc42 := Aside0.mk c42
       clear c42
       obtain ⟨y348, hy348⟩ : ∃ y_ : List (S72), y_ = (y342 ++ y345) := ⟨_, rfl⟩
       replace H : ((some (x3_1.drop (x6_2 : Int).toNat : List (S72))).bind fun y351 => (if y348.length + y351.length < 8796093022208 then (spec_l2Spans.l0 k2 l0 (y348 ++ y351) (wrap64 (x4_1 + 1))) else (none))) = some r := by first | (rw [hy348]; with_reducible exact H) | (have H2_ := (Option.bind_some _ _).symm.trans H; rw [hy348]; with_reducible exact H2_) | (have H2_ := (Option.bind_some _ _).symm.trans H; with_reducible exact H2_) | with_reducible exact H | (rw [hy348]; exact H) | exact H
       have Ny348 := Aside0.mk hy348
       clear hy348
       have c43b0 := eq_true (of_decide_eq_true zz10 : 0 ≤ x6_2)
       have c44b0 := eq_true (of_decide_eq_true zz10 : x6_2 ≤ (x3_1.length : Int))
       obtain ⟨y351, hy351⟩ : ∃ y_ : List (S72), y_ = (x3_1.drop (x6_2 : Int).toNat) := ⟨_, rfl⟩
       replace H : (if y348.length + y351.length < 8796093022208 then (spec_l2Spans.l0 k2 l0 (y348 ++ y351) (wrap64 (x4_1 + 1))) else (none)) = some r := by first | (rw [hy351]; with_reducible exact H) | (have H2_ := (Option.bind_some _ _).symm.trans H; rw [hy351]; with_reducible exact H2_) | (have H2_ := (Option.bind_some _ _).symm.trans H; with_reducible exact H2_) | with_reducible exact H | (rw [hy351]; exact H) | exact H
       have Ny351 := Aside0.mk hy351
       clear hy351
       replace H := gp H
       obtain ⟨c45, H⟩ := H
       have LMc45 := Aside0.mk c45
       clear c45
       obtain ⟨y355, hy355⟩ : ∃ y_ : List (S72), y_ = (y348 ++ y351) := ⟨_, rfl⟩
       replace H : (spec_l2Spans.l0 k2 l0 y355 (wrap64 (x4_1 + 1))) = some r := by first | (rw [hy355]; with_reducible exact H) | (have H2_ := (Option.bind_some _ _).symm.trans H; rw [hy355]; with_reducible exact H2_) | (have H2_ := (Option.bind_some _ _).symm.trans H; with_reducible exact H2_) | with_reducible exact H | (rw [hy355]; exact H) | exact H
       have Ny355 := Aside0.mk hy355
       clear hy355
       have H' := Aside0.mk H
       clear H
       try go_wp2
       replace HO_3 := Aside0.mk (Kd.R_drew HO_3.out)
       replace BK310 := Aside0.mk (blk_drew BK310.out)
       replace HB := Aside0.mk (below_drew1 HB.out)
       obtain ⟨Ao47, co47, eo47⟩ := Kd.R_slice HO_3.out
       (first | subst eo47 | (injection eo47 with f1_ f2_ f3_; have f4_ := f1_.symm; have f5_ := f3_.symm; clear f1_ f2_ f3_; subst f4_; subst f5_))
       refine start_ (n := 14) (S := fun w' => True) (ds := []) (bm 14 0) (by kernel_rfl) rfl rfl trivial (fun hHeld => ?_); refine with_tabW spec_l2Spans.tab7 spec_l2Spans.bits7 (fun HT_ HW_ => ?_)
       generalize wr.drew = w46 at HO_3 BK310 HB hHeld ⊢
       refine pu 0 28 (bm 14 1) ?_
       refine pu 1 29 (bm 14 3) ?_
       refine pu 2 30 (bm 14 7) ?_
       refine pu 3 31 (bm 14 15) ?_
       refine pu 4 32 (bm 14 31) ?_
       refine po 5 33 (bm 14 63) ?_
       refine po 6 34 (bm 14 127) ?_
       refine po 7 35 (bm 14 255) ?_
       refine po 8 36 (bm 14 511) ?_
       refine po 9 37 (bm 14 1023) ?_
       refine po 10 38 (bm 14 2047) ?_
       refine po 11 39 (bm 14 4095) ?_
       refine po 12 40 (bm 14 8191) ?_
       refine pu 13 41 (bm 14 16383) ?_
       refine done_ (done_of HT_.out (by kernel_rfl)) ?_
       try go_wp2
       replace HO_3 := Aside0.mk (Kd.R_drew HO_3.out)
       replace BK310 := Aside0.mk (blk_drew BK310.out)
       replace HB := Aside0.mk (below_drew1 HB.out)
       have q49 : (x6_2 : Int) ≤ ((x3_1.length : Int) : Int) := da
       obtain ⟨i049, hi049, _, hsz49, _⟩ := info_parts info72
       have hroom49 : x3_1.length ≤ co47 := (Kd.R_reads' HO_3.out).2.1
       have hC49 : Kd.C k72 _ Ao47 x3_1.length x3_1 := (Kd.R_reads' HO_3.out).2.2
       have hcut49 := cut_to (P := Try.prog) 73 72 .i64 Try.underlying73 hi049 Ao47 x3_1.length co47 x6_2 (of_decide_eq_true zz10) q49 hroom49
       have hr49 := Kd.C_take (m := (x6_2 : Int).toNat) hC49 (by omega)
       have hy49 : y338.length = (x6_2 : Int).toNat := (by rw [Ny338.out, List.length_take]; omega)
       rw [← Ny338.out] at hr49
       rw [← hy49] at hcut49
       have HR341 := Aside0.mk hr49
       have HC341 := Aside0.mk (show y338.length ≤ co47 from by omega)
       clear hr49 hC49 hroom49 hi049 hsz49
       have KY49 := Aside0.mk hy49
       clear hy49
       have KL49 := Aside0.mk (show (x6_2 : Int).toNat ≤ x3_1.length from by omega)
       replace q49 := eq_true q49
       have q50 : (x6_2 : Int) ≤ ((x3_1.length : Int) : Int) := da
       obtain ⟨i050, hi050, _, hsz50, _⟩ := info_parts info72
       have hroom50 : x3_1.length ≤ co47 := (Kd.R_reads' HO_3.out).2.1
       have hC50 : Kd.C k72 _ Ao47 x3_1.length x3_1 := (Kd.R_reads' HO_3.out).2.2
       have q050 : (0 : Int) ≤ (x6_2 : Int) := da
       have hcut50 := cut_from (P := Try.prog) 73 72 .i64 Try.underlying73 hi050 2 hsz50 Ao47 x3_1.length co47 x6_2 q050 q50
       have hr50 := Kd.C_drop (m := (x6_2 : Int).toNat) (c := co47) hC50 (by omega) hroom50
       obtain ⟨A50, hA50⟩ : ∃ A1, A1 = (if co47 = (x6_2 : Int).toNat then Ao47 else (Ao47 : Option Addr).map (·.add ((x6_2 : Int).toNat * 2))) := ⟨_, rfl⟩
       obtain ⟨c50, hc50⟩ : ∃ c1, c1 = co47 - (x6_2 : Int).toNat := ⟨_, rfl⟩
       have hy50 : y351.length = x3_1.length - (x6_2 : Int).toNat := (by rw [Ny351.out, List.length_drop] <;> omega)
       rw [show (x3_1).drop (x6_2 : Int).toNat = y351 from Ny351.out.symm] at hr50
       replace hr50 : Kd.C k72 _ A50 y351.length y351 := (by rw [hA50]; exact hr50)
       rw [← hy50, ← hA50, ← hc50] at hcut50
       have HR354 := Aside0.mk hr50
       have HC354 := Aside0.mk (show y351.length ≤ c50 from by rw [hy50, hc50]; exact Nat.sub_le_sub_right hroom50 _)
       clear hr50 hC50 hroom50 hi050 hsz50 hc50
       have KY50 := Aside0.mk hy50
       have KA50 := Aside0.mk hA50
       clear hy50 hA50
       have KL50 := Aside0.mk (show (x6_2 : Int).toNat ≤ x3_1.length from by omega)
       replace q50 := eq_true q50
       refine start_ (n := 13) (S := fun w' => w'.cell? ⟨gb310, 0, none⟩ = some (.int .i64 ((rd_T40 l0 x4_1).f0)) ∧ w'.cell? ⟨gb310, 1, none⟩ = some (.int .i64 t309)) (ds := []) (bm 13 0) (by kernel_rfl) rfl rfl ⟨(blk_cell BK310.out 0).trans rfl, (blk_cell BK310.out 1).trans rfl⟩ (fun hHeld => ?_); refine with_tabW spec_l2Spans.tab9 spec_l2Spans.bits9 (fun HT_ HW_ => ?_)
       generalize w46.drew = w48 at HO_3 BK310 HB HR341 HR354 hHeld ⊢
       refine pu 1 45 (bm 13 2) ?_
       refine pu 2 46 (bm 13 6) ?_
       refine pu 3 47 (bm 13 14) ?_
       refine pu 8 52 (bm 13 270) ?_
       refine pu 9 53 (bm 13 782) ?_
       refine pu 10 54 (bm 13 1806) ?_
       refine tk 5 49 (bm 13 1838) ?_
       refine join_ (σ := Value × Value × Value) 3 (bm 13 1919) (fun s_ => [(44, s_.1), (48, s_.2.1), (50, s_.2.2)]) (fun s_ w' => (w'.cell? ⟨gb310, 0, none⟩ = some (.int .i64 ((rd_T40 l0 x4_1).f0)) ∧ w'.cell? ⟨gb310, 1, none⟩ = some (.int .i64 t309)) ∧ (Kd.R k72 72 w' w.heap.size (fun k_ => some k_ ≠ (s_.2.2 : Value).ownBlock ∧ some k_ ≠ (.slice Ao47 x3_1.length co47 : Value).ownBlock ∧ k_ ≠ gb310) s_.2.1 y342) ∧ (Kd.R k72 72 w' w.heap.size (fun k_ => some k_ ≠ (s_.2.1 : Value).ownBlock ∧ some k_ ≠ (.slice Ao47 x3_1.length co47 : Value).ownBlock ∧ k_ ≠ gb310) s_.2.2 y345) ∧ (Kd.R k72 72 w' w.heap.size (fun k_ => some k_ ≠ (s_.2.1 : Value).ownBlock ∧ some k_ ≠ (s_.2.2 : Value).ownBlock ∧ k_ ≠ gb310) (.slice Ao47 x3_1.length co47) x3_1) ∧ (w'.heap[gb310]? = some (.cells #[.int .i64 ((rd_T40 l0 x4_1).f0), .int .i64 t309] 72 (0, 0))) ∧ (Below w.heap.size w w')) ?_ ?_
       rotate_left
       ·intro hCont
        refine two_ (i := 0) (j := 6) (Ni := some 44) (Nj := some 50) (bm 13 1839) (bm 13 1902) rfl rfl rfl rfl (two_of HT_.out (by kernel_rfl)) (by decide) (by decide) (fun K hK => ?_) (fun K hK => ?_)
        ·skip
         refine rls k72 72 44 ([] : List (S72)) [] ?hp ?_; (case hp => exact zz34)
         intro v336 w51 ho52 hb hg_ hnew_
         clear hg_ hnew_
         (first | rw [← Ny335.out] at ho52 | (simp only [Int.reduceToNat] at ho52; rw [← Ny335.out] at ho52))
         have HO337 := Aside0.mk (Kd.R_lower (Kd.R_newB (Kd.R_new' ho52 (Kd.R_lt (zz12 HO_3))) (g := gb310) (o := .cells #[.int .i64 ((rd_T40 l0 x4_1).f0), .int .i64 t309] 72 (0, 0)) (zz7 BK310)) (below_size (zz6 GE310)))
         replace HO_3 := Aside0.mk (Kd.R_elder' (zz12 HO_3) (Kd.R_base ho52) hb)
         replace BK310 := Aside0.mk (blk_below (g := gb310) (o := .cells #[.int .i64 ((rd_T40 l0 x4_1).f0), .int .i64 t309] 72 (0, 0)) (zz7 BK310) hb)
         replace HR341 := Aside0.mk (Kd.C_below (zz45 HR341) hb)
         replace HR354 := Aside0.mk (Kd.C_below (zz45 HR354) hb)
         replace HB := Aside0.mk (below_step (zz6 GE310) hb)
         clear hb ho52
         refine hK.out _ _ ⟨(blk_cell BK310.out 0).trans rfl, (blk_cell BK310.out 1).trans rfl⟩ (fun hHeld => ?_)
         clear hK K
         refine nm 44 ?_
         refine two_ (i := 4) (j := 6) (Ni := some 48) (Nj := some 50) (bm 13 1855) (bm 13 1903) rfl rfl rfl rfl (two_of HT_.out (by kernel_rfl)) (by decide) (by decide) (fun K hK => ?_) (fun K hK => ?_)
         ·skip
          refine Kd.R_append_rows_step k72 (w0 := w) w.heap.size (by rfl) (.tmp 44) (.tmp 47) 73 72 (.agg #[(.int .i64 0), (.int .i64 0)]) 16 rfl Try.underlying73 info72 rfl (by decide) (by omega) v336 y335 y338 _ _ _ (fun k_ => some k_ ≠ (.slice Ao47 x3_1.length co47 : Value).ownBlock ∧ k_ ≠ gb310) (fun _ => False) rfl rfl ?aO ?aR (fun _ _ h => h) (fun _ h => h.elim) ?aF ?aB ?aS ?aL ?_
          (case aR => exact zz46 HR341)
          (case aB => exact zz6 GE310)
          (case aF => exact (fun k_ hk => ⟨Kd.fresh' (Kd.R_lt (zz12 HO_3)) k_ hk, Kd.freshB (g := gb310) (o := .cells #[.int .i64 ((rd_T40 l0 x4_1).f0), .int .i64 t309] 72 (0, 0)) (zz7 BK310) k_ hk⟩))
          (case aO => exact zz47 HO337)
          (case aS => exact zz14 GE310)
          (case aL => exact zz3 LMc41)
          intro v343 w53 ho hb hg hat
          rw [← Ny342.out] at ho
          replace BK310 := Aside0.mk (blk_grown (g := gb310) (o := .cells #[.int .i64 ((rd_T40 l0 x4_1).f0), .int .i64 t309] 72 (0, 0)) (zz7 BK310) hg (Kd.R_away HO337.out (fun _ hk => hk.2)))
          replace HB := Aside0.mk hb
          replace HR341 := Aside0.mk (show Kd.C k72 w53 Ao47 y338.length y338 from by rw [Ny338.out]; exact Kd.C_take (m := (x6_2 : Int).toNat) ((Kd.R_reads' (Kd.R_after (ok := (fun k_ => k_ ≠ gb310)) (zz12 HO_3) hg hat)).2.2) KL49.out)
          replace HR354 := Aside0.mk (show Kd.C k72 w53 A50 y351.length y351 from by rw [Ny351.out, KA50.out]; exact Kd.C_drop (m := (x6_2 : Int).toNat) (c := co47) ((Kd.R_reads' (Kd.R_after (ok := (fun k_ => k_ ≠ gb310)) (zz12 HO_3) hg hat)).2.2) KL50.out ((Kd.R_reads' (Kd.R_after (ok := (fun k_ => k_ ≠ gb310)) (zz12 HO_3) hg hat)).2.1))
          replace HO_3 := Aside0.mk (Kd.R_after (ok := (fun k_ => k_ ≠ gb310)) (zz12 HO_3) hg hat)
          have HO344 := Aside0.mk ho
          clear HO337 ho hb hg hat
          refine hK.out _ _ ⟨(blk_cell BK310.out 0).trans rfl, (blk_cell BK310.out 1).trans rfl⟩ (fun hHeld => ?_)
          clear hK K
          refine nm 48 ?_
          refine on 6 (some 50) (bm 13 1919) (fun K hK => ?_)
          refine rls k72 72 50 ([(⟨((rd_T40 l0 x4_1).f0), t309⟩ : S72)] : List (S72)) [.int .i64 ((rd_T40 l0 x4_1).f0), .int .i64 t309] ?hp ?_; (case hp => exact (Reps.c2 (show Kd.M k72 _ _ _ (⟨((rd_T40 l0 x4_1).f0), t309⟩ : S72) [.int .i64 ((rd_T40 l0 x4_1).f0), .int .i64 t309] from (k72_mkM _ _ _ (⟨((rd_T40 l0 x4_1).f0), t309⟩ : S72) )) (Reps.none _ _)))
          intro v346 w54 ho55 hb hg_ hnew_
          clear hg_ hnew_
          (first | rw [← Ny345.out] at ho55 | (simp only [Int.reduceToNat] at ho55; rw [← Ny345.out] at ho55))
          have HO347 := Aside0.mk (Kd.R_lower (Kd.R_newB (Kd.R_new' (Kd.R_new' ho55 (Kd.R_lt (zz12 HO_3))) (Kd.R_lt (zz12 HO344))) (g := gb310) (o := .cells #[.int .i64 ((rd_T40 l0 x4_1).f0), .int .i64 t309] 72 (0, 0)) (zz7 BK310)) (below_size (zz6 GE310)))
          replace HO_3 := Aside0.mk (Kd.R_elder' (zz12 HO_3) (Kd.R_base ho55) hb)
          replace HO344 := Aside0.mk (Kd.R_elder' (zz12 HO344) (Kd.R_base ho55) hb)
          replace BK310 := Aside0.mk (blk_below (g := gb310) (o := .cells #[.int .i64 ((rd_T40 l0 x4_1).f0), .int .i64 t309] 72 (0, 0)) (zz7 BK310) hb)
          replace HR341 := Aside0.mk (Kd.C_below (zz45 HR341) hb)
          replace HR354 := Aside0.mk (Kd.C_below (zz45 HR354) hb)
          replace HB := Aside0.mk (below_step (zz6 GE310) hb)
          clear hb ho55
          refine hK.out _ _ ⟨(blk_cell BK310.out 0).trans rfl, (blk_cell BK310.out 1).trans rfl⟩ (fun hHeld => ?_)
          clear hK K
          refine nm 50 ?_
          exact norm_ zz44 (hCont (v336, v343, v346) _ ⟨hHeld, (zz48 HO344), (zz49 HO347), (zz50 HO_3), (zz7 BK310), (zz6 GE310)⟩)
         ·skip
          refine rls k72 72 50 ([(⟨((rd_T40 l0 x4_1).f0), t309⟩ : S72)] : List (S72)) [.int .i64 ((rd_T40 l0 x4_1).f0), .int .i64 t309] ?hp ?_; (case hp => exact (Reps.c2 (show Kd.M k72 _ _ _ (⟨((rd_T40 l0 x4_1).f0), t309⟩ : S72) [.int .i64 ((rd_T40 l0 x4_1).f0), .int .i64 t309] from (k72_mkM _ _ _ (⟨((rd_T40 l0 x4_1).f0), t309⟩ : S72) )) (Reps.none _ _)))
          intro v346 w53 ho54 hb hg_ hnew_
          clear hg_ hnew_
          (first | rw [← Ny345.out] at ho54 | (simp only [Int.reduceToNat] at ho54; rw [← Ny345.out] at ho54))
          have HO347 := Aside0.mk (Kd.R_lower (Kd.R_newB (Kd.R_new' (Kd.R_new' ho54 (Kd.R_lt (zz12 HO_3))) (Kd.R_lt (zz12 HO337))) (g := gb310) (o := .cells #[.int .i64 ((rd_T40 l0 x4_1).f0), .int .i64 t309] 72 (0, 0)) (zz7 BK310)) (below_size (zz6 GE310)))
          replace HO_3 := Aside0.mk (Kd.R_elder' (zz12 HO_3) (Kd.R_base ho54) hb)
          replace HO337 := Aside0.mk (Kd.R_elder' (zz12 HO337) (Kd.R_base ho54) hb)
          replace BK310 := Aside0.mk (blk_below (g := gb310) (o := .cells #[.int .i64 ((rd_T40 l0 x4_1).f0), .int .i64 t309] 72 (0, 0)) (zz7 BK310) hb)
          replace HR341 := Aside0.mk (Kd.C_below (zz45 HR341) hb)
          replace HR354 := Aside0.mk (Kd.C_below (zz45 HR354) hb)
          replace HB := Aside0.mk (below_step (zz6 GE310) hb)
          clear hb ho54
          refine hK.out _ _ ⟨(blk_cell BK310.out 0).trans rfl, (blk_cell BK310.out 1).trans rfl⟩ (fun hHeld => ?_)
          clear hK K
          refine nm 50 ?_
          refine on 4 (some 48) (bm 13 1919) (fun K hK => ?_)
          refine Kd.R_append_rows_step k72 (w0 := w) w.heap.size (by rfl) (.tmp 44) (.tmp 47) 73 72 (.agg #[(.int .i64 0), (.int .i64 0)]) 16 rfl Try.underlying73 info72 rfl (by decide) (by omega) v336 y335 y338 _ _ _ (fun k_ => some k_ ≠ (.slice Ao47 x3_1.length co47 : Value).ownBlock ∧ some k_ ≠ (v346 : Value).ownBlock ∧ k_ ≠ gb310) (fun _ => False) rfl rfl ?aO ?aR (fun _ _ h => h) (fun _ h => h.elim) ?aF ?aB ?aS ?aL ?_
          (case aR => exact zz46 HR341)
          (case aB => exact zz6 GE310)
          (case aF => exact (fun k_ hk => ⟨Kd.fresh' (Kd.R_lt (zz12 HO_3)) k_ hk, Kd.fresh' (Kd.R_lt (zz12 HO347)) k_ hk, Kd.freshB (g := gb310) (o := .cells #[.int .i64 ((rd_T40 l0 x4_1).f0), .int .i64 t309] 72 (0, 0)) (zz7 BK310) k_ hk⟩))
          (case aO => exact zz51 HO337)
          (case aS => exact zz14 GE310)
          (case aL => exact zz3 LMc41)
          intro v343 w55 ho hb hg hat
          rw [← Ny342.out] at ho
          replace BK310 := Aside0.mk (blk_grown (g := gb310) (o := .cells #[.int .i64 ((rd_T40 l0 x4_1).f0), .int .i64 t309] 72 (0, 0)) (zz7 BK310) hg (Kd.R_away HO337.out (fun _ hk => hk.1.2)))
          replace HO347 := Aside0.mk (Kd.R_after (ok := (fun k_ => some k_ ≠ (.slice Ao47 x3_1.length co47 : Value).ownBlock ∧ k_ ≠ gb310)) (zz52 HO347) hg hat)
          replace HB := Aside0.mk hb
          replace HR341 := Aside0.mk (show Kd.C k72 w55 Ao47 y338.length y338 from by rw [Ny338.out]; exact Kd.C_take (m := (x6_2 : Int).toNat) ((Kd.R_reads' (Kd.R_after (ok := (fun k_ => some k_ ≠ (v346 : Value).ownBlock ∧ k_ ≠ gb310)) (zz53 HO_3) hg hat)).2.2) KL49.out)
          replace HR354 := Aside0.mk (show Kd.C k72 w55 A50 y351.length y351 from by rw [Ny351.out, KA50.out]; exact Kd.C_drop (m := (x6_2 : Int).toNat) (c := co47) ((Kd.R_reads' (Kd.R_after (ok := (fun k_ => some k_ ≠ (v346 : Value).ownBlock ∧ k_ ≠ gb310)) (zz53 HO_3) hg hat)).2.2) KL50.out ((Kd.R_reads' (Kd.R_after (ok := (fun k_ => some k_ ≠ (v346 : Value).ownBlock ∧ k_ ≠ gb310)) (zz53 HO_3) hg hat)).2.1))
          replace HO_3 := Aside0.mk (Kd.R_after (ok := (fun k_ => some k_ ≠ (v346 : Value).ownBlock ∧ k_ ≠ gb310)) (zz53 HO_3) hg hat)
          have HO344 := Aside0.mk ho
          clear HO337 ho hb hg hat
          refine hK.out _ _ ⟨(blk_cell BK310.out 0).trans rfl, (blk_cell BK310.out 1).trans rfl⟩ (fun hHeld => ?_)
          clear hK K
          refine nm 48 ?_
          exact norm_ zz44 (hCont (v336, v343, v346) _ ⟨hHeld, (zz54 HO344), (zz48 HO347), (zz48 HO_3), (zz7 BK310), (zz6 GE310)⟩)
        ·skip
         refine rls k72 72 50 ([(⟨((rd_T40 l0 x4_1).f0), t309⟩ : S72)] : List (S72)) [.int .i64 ((rd_T40 l0 x4_1).f0), .int .i64 t309] ?hp ?_; (case hp => exact (Reps.c2 (show Kd.M k72 _ _ _ (⟨((rd_T40 l0 x4_1).f0), t309⟩ : S72) [.int .i64 ((rd_T40 l0 x4_1).f0), .int .i64 t309] from (k72_mkM _ _ _ (⟨((rd_T40 l0 x4_1).f0), t309⟩ : S72) )) (Reps.none _ _)))
         intro v346 w51 ho52 hb hg_ hnew_
         clear hg_ hnew_
         (first | rw [← Ny345.out] at ho52 | (simp only [Int.reduceToNat] at ho52; rw [← Ny345.out] at ho52))
         have HO347 := Aside0.mk (Kd.R_lower (Kd.R_newB (Kd.R_new' ho52 (Kd.R_lt (zz12 HO_3))) (g := gb310) (o := .cells #[.int .i64 ((rd_T40 l0 x4_1).f0), .int .i64 t309] 72 (0, 0)) (zz7 BK310)) (below_size (zz6 GE310)))
         replace HO_3 := Aside0.mk (Kd.R_elder' (zz12 HO_3) (Kd.R_base ho52) hb)
         replace BK310 := Aside0.mk (blk_below (g := gb310) (o := .cells #[.int .i64 ((rd_T40 l0 x4_1).f0), .int .i64 t309] 72 (0, 0)) (zz7 BK310) hb)
         replace HR341 := Aside0.mk (Kd.C_below (zz45 HR341) hb)
         replace HR354 := Aside0.mk (Kd.C_below (zz45 HR354) hb)
         replace HB := Aside0.mk (below_step (zz6 GE310) hb)
         clear hb ho52
         refine hK.out _ _ ⟨(blk_cell BK310.out 0).trans rfl, (blk_cell BK310.out 1).trans rfl⟩ (fun hHeld => ?_)
         clear hK K
         refine nm 50 ?_
         refine on 0 (some 44) (bm 13 1903) (fun K hK => ?_)
         refine rls k72 72 44 ([] : List (S72)) [] ?hp ?_; (case hp => exact zz34)
         intro v336 w53 ho54 hb hg_ hnew_
         clear hg_ hnew_
         (first | rw [← Ny335.out] at ho54 | (simp only [Int.reduceToNat] at ho54; rw [← Ny335.out] at ho54))
         have HO337 := Aside0.mk (Kd.R_lower (Kd.R_newB (Kd.R_new' (Kd.R_new' ho54 (Kd.R_lt (zz12 HO_3))) (Kd.R_lt (zz12 HO347))) (g := gb310) (o := .cells #[.int .i64 ((rd_T40 l0 x4_1).f0), .int .i64 t309] 72 (0, 0)) (zz7 BK310)) (below_size (zz6 GE310)))
         replace HO_3 := Aside0.mk (Kd.R_elder' (zz12 HO_3) (Kd.R_base ho54) hb)
         replace HO347 := Aside0.mk (Kd.R_elder' (zz12 HO347) (Kd.R_base ho54) hb)
         replace BK310 := Aside0.mk (blk_below (g := gb310) (o := .cells #[.int .i64 ((rd_T40 l0 x4_1).f0), .int .i64 t309] 72 (0, 0)) (zz7 BK310) hb)
         replace HR341 := Aside0.mk (Kd.C_below (zz45 HR341) hb)
         replace HR354 := Aside0.mk (Kd.C_below (zz45 HR354) hb)
         replace HB := Aside0.mk (below_step (zz6 GE310) hb)
         clear hb ho54
         refine hK.out _ _ ⟨(blk_cell BK310.out 0).trans rfl, (blk_cell BK310.out 1).trans rfl⟩ (fun hHeld => ?_)
         clear hK K
         refine nm 44 ?_
         refine on 4 (some 48) (bm 13 1919) (fun K hK => ?_)
         refine Kd.R_append_rows_step k72 (w0 := w) w.heap.size (by rfl) (.tmp 44) (.tmp 47) 73 72 (.agg #[(.int .i64 0), (.int .i64 0)]) 16 rfl Try.underlying73 info72 rfl (by decide) (by omega) v336 y335 y338 _ _ _ (fun k_ => some k_ ≠ (.slice Ao47 x3_1.length co47 : Value).ownBlock ∧ some k_ ≠ (v346 : Value).ownBlock ∧ k_ ≠ gb310) (fun _ => False) rfl rfl ?aO ?aR (fun _ _ h => h) (fun _ h => h.elim) ?aF ?aB ?aS ?aL ?_
         (case aR => exact zz46 HR341)
         (case aB => exact zz6 GE310)
         (case aF => exact (fun k_ hk => ⟨Kd.fresh' (Kd.R_lt (zz12 HO_3)) k_ hk, Kd.fresh' (Kd.R_lt (zz12 HO347)) k_ hk, Kd.freshB (g := gb310) (o := .cells #[.int .i64 ((rd_T40 l0 x4_1).f0), .int .i64 t309] 72 (0, 0)) (zz7 BK310) k_ hk⟩))
         (case aO => exact zz55 HO337)
         (case aS => exact zz14 GE310)
         (case aL => exact zz3 LMc41)
         intro v343 w55 ho hb hg hat
         rw [← Ny342.out] at ho
         replace BK310 := Aside0.mk (blk_grown (g := gb310) (o := .cells #[.int .i64 ((rd_T40 l0 x4_1).f0), .int .i64 t309] 72 (0, 0)) (zz7 BK310) hg (Kd.R_away HO337.out (fun _ hk => hk.2)))
         replace HO347 := Aside0.mk (Kd.R_after (ok := (fun k_ => some k_ ≠ (.slice Ao47 x3_1.length co47 : Value).ownBlock ∧ k_ ≠ gb310)) (zz56 HO347) hg hat)
         replace HB := Aside0.mk hb
         replace HR341 := Aside0.mk (show Kd.C k72 w55 Ao47 y338.length y338 from by rw [Ny338.out]; exact Kd.C_take (m := (x6_2 : Int).toNat) ((Kd.R_reads' (Kd.R_after (ok := (fun k_ => some k_ ≠ (v346 : Value).ownBlock ∧ k_ ≠ gb310)) (zz57 HO_3) hg hat)).2.2) KL49.out)
         replace HR354 := Aside0.mk (show Kd.C k72 w55 A50 y351.length y351 from by rw [Ny351.out, KA50.out]; exact Kd.C_drop (m := (x6_2 : Int).toNat) (c := co47) ((Kd.R_reads' (Kd.R_after (ok := (fun k_ => some k_ ≠ (v346 : Value).ownBlock ∧ k_ ≠ gb310)) (zz57 HO_3) hg hat)).2.2) KL50.out ((Kd.R_reads' (Kd.R_after (ok := (fun k_ => some k_ ≠ (v346 : Value).ownBlock ∧ k_ ≠ gb310)) (zz57 HO_3) hg hat)).2.1))
         replace HO_3 := Aside0.mk (Kd.R_after (ok := (fun k_ => some k_ ≠ (v346 : Value).ownBlock ∧ k_ ≠ gb310)) (zz57 HO_3) hg hat)
         have HO344 := Aside0.mk ho
         clear HO337 ho hb hg hat
         refine hK.out _ _ ⟨(blk_cell BK310.out 0).trans rfl, (blk_cell BK310.out 1).trans rfl⟩ (fun hHeld => ?_)
         clear hK K
         refine nm 48 ?_
         exact norm_ zz44 (hCont (v336, v343, v346) _ ⟨hHeld, (zz54 HO344), (zz48 HO347), (zz48 HO_3), (zz7 BK310), (zz6 GE310)⟩)
       rintro ⟨v336, v343, v346⟩ w56 ⟨hS_, h0_, h1_, h2_, h3_, h4_⟩
       have HO344 : Aside0 (Kd.R k72 72 w56 w.heap.size (fun k_ => some k_ ≠ (v346 : Value).ownBlock ∧ some k_ ≠ (.slice Ao47 x3_1.length co47 : Value).ownBlock ∧ k_ ≠ gb310) v343 y342) := ⟨h0_⟩
       have HO347 : Aside0 (Kd.R k72 72 w56 w.heap.size (fun k_ => some k_ ≠ (v343 : Value).ownBlock ∧ some k_ ≠ (.slice Ao47 x3_1.length co47 : Value).ownBlock ∧ k_ ≠ gb310) v346 y345) := ⟨h1_⟩
       replace HO_3 : Aside0 (Kd.R k72 72 w56 w.heap.size (fun k_ => some k_ ≠ (v343 : Value).ownBlock ∧ some k_ ≠ (v346 : Value).ownBlock ∧ k_ ≠ gb310) (.slice Ao47 x3_1.length co47) x3_1) := ⟨h2_⟩
       replace BK310 : Aside0 (w56.heap[gb310]? = some (.cells #[.int .i64 ((rd_T40 l0 x4_1).f0), .int .i64 t309] 72 (0, 0))) := ⟨h3_⟩
       replace HB : Aside0 (Below w.heap.size w w56) := ⟨h4_⟩
       clear h0_ h1_ h2_ h3_ h4_
       have hHeld : w56.cell? ⟨gb310, 0, none⟩ = some (.int .i64 ((rd_T40 l0 x4_1).f0)) ∧ w56.cell? ⟨gb310, 1, none⟩ = some (.int .i64 t309) := hS_
       have HR341 := Aside0.mk (show Kd.C k72 w56 Ao47 y338.length y338 from by rw [Ny338.out]; exact Kd.C_take (m := (x6_2 : Int).toNat) ((Kd.R_reads' HO_3.out).2.2) KL49.out)
       have HR354 := Aside0.mk (show Kd.C k72 w56 A50 y351.length y351 from by rw [Ny351.out, KA50.out]; exact Kd.C_drop (m := (x6_2 : Int).toNat) (c := co47) ((Kd.R_reads' HO_3.out).2.2) KL50.out ((Kd.R_reads' HO_3.out).2.1))
       obtain ⟨Ao58, co58, eo58⟩ := Kd.R_slice HO347.out
       (first | subst eo58 | (injection eo58 with f1_ f2_ f3_; have f4_ := f1_.symm; have f5_ := f3_.symm; clear f1_ f2_ f3_; subst f4_; subst f5_))
       refine norm_ (a' := ?_) ?_ ?_
       rotate_left
       ·simp only [putAll, Act.put, List.setIfInBounds_toArray, List.set_cons_zero, List.set_cons_succ]
        rfl
       refine on 7 (some 51) (bm 13 2047) (fun K hK => ?_)
       refine Kd.R_append_rows_step k72 (w0 := w) w.heap.size (by rfl) (.tmp 48) (.tmp 50) 73 72 (.agg #[(.int .i64 0), (.int .i64 0)]) 16 rfl Try.underlying73 info72 rfl (by decide) (by omega) v343 y342 y345 _ _ _ (fun k_ => some k_ ≠ (.slice Ao47 x3_1.length co47 : Value).ownBlock ∧ some k_ ≠ (.slice Ao58 y345.length co58 : Value).ownBlock ∧ k_ ≠ gb310) (fun _ => False) rfl rfl ?aO ?aR (fun _ _ h => h) (fun _ h => h.elim) ?aF ?aB ?aS ?aL ?_
       (case aR => exact zz20 HO347)
       (case aB => exact zz6 GE310)
       (case aF => exact (fun k_ hk => ⟨Kd.fresh' (Kd.R_lt (zz12 HO_3)) k_ hk, Kd.fresh' (Kd.R_lt (zz12 HO347)) k_ hk, Kd.freshB (g := gb310) (o := .cells #[.int .i64 ((rd_T40 l0 x4_1).f0), .int .i64 t309] 72 (0, 0)) (zz7 BK310) k_ hk⟩))
       (case aO => exact zz54 HO344)
       (case aS => exact zz14 GE310)
       (case aL => exact zz3 LMc42)
       intro v349 w57 ho hb hg hat
       rw [← Ny348.out] at ho
       replace BK310 := Aside0.mk (blk_grown (g := gb310) (o := .cells #[.int .i64 ((rd_T40 l0 x4_1).f0), .int .i64 t309] 72 (0, 0)) (zz7 BK310) hg (Kd.R_away HO344.out (fun _ hk => hk.2.2)))
       replace HO347 := Aside0.mk (Kd.R_after (ok := (fun k_ => some k_ ≠ (.slice Ao47 x3_1.length co47 : Value).ownBlock ∧ k_ ≠ gb310)) (zz58 HO347) hg hat)
       replace HB := Aside0.mk hb
       replace HR341 := Aside0.mk (show Kd.C k72 w57 Ao47 y338.length y338 from by rw [Ny338.out]; exact Kd.C_take (m := (x6_2 : Int).toNat) ((Kd.R_reads' (Kd.R_after (ok := (fun k_ => some k_ ≠ (.slice Ao58 y345.length co58 : Value).ownBlock ∧ k_ ≠ gb310)) (zz58 HO_3) hg hat)).2.2) KL49.out)
       replace HR354 := Aside0.mk (show Kd.C k72 w57 A50 y351.length y351 from by rw [Ny351.out, KA50.out]; exact Kd.C_drop (m := (x6_2 : Int).toNat) (c := co47) ((Kd.R_reads' (Kd.R_after (ok := (fun k_ => some k_ ≠ (.slice Ao58 y345.length co58 : Value).ownBlock ∧ k_ ≠ gb310)) (zz58 HO_3) hg hat)).2.2) KL50.out ((Kd.R_reads' (Kd.R_after (ok := (fun k_ => some k_ ≠ (.slice Ao58 y345.length co58 : Value).ownBlock ∧ k_ ≠ gb310)) (zz58 HO_3) hg hat)).2.1))
       replace HO_3 := Aside0.mk (Kd.R_after (ok := (fun k_ => some k_ ≠ (.slice Ao58 y345.length co58 : Value).ownBlock ∧ k_ ≠ gb310)) (zz58 HO_3) hg hat)
       have HO350 := Aside0.mk ho
       clear HO344 ho hb hg hat
       refine hK.out _ _ ⟨(blk_cell BK310.out 0).trans rfl, (blk_cell BK310.out 1).trans rfl⟩ (fun hHeld => ?_)
       clear hK K
       refine nm 51 ?_
       refine on 11 (some 55) (bm 13 4095) (fun K hK => ?_)
       refine Kd.R_append_rows_step k72 (w0 := w) w.heap.size (by rfl) (.tmp 51) (.tmp 54) 73 72 (.agg #[(.int .i64 0), (.int .i64 0)]) 16 rfl Try.underlying73 info72 rfl (by decide) (by omega) v349 y348 y351 _ _ _ (fun k_ => some k_ ≠ (.slice Ao47 x3_1.length co47 : Value).ownBlock ∧ some k_ ≠ (.slice Ao58 y345.length co58 : Value).ownBlock ∧ k_ ≠ gb310) (fun _ => False) rfl rfl ?aO ?aR (fun _ _ h => h) (fun _ h => h.elim) ?aF ?aB ?aS ?aL ?_
       (case aR => exact zz46 HR354)
       (case aB => exact zz6 GE310)
       (case aF => exact (fun k_ hk => ⟨Kd.fresh' (Kd.R_lt (zz12 HO_3)) k_ hk, Kd.fresh' (Kd.R_lt (zz12 HO347)) k_ hk, Kd.freshB (g := gb310) (o := .cells #[.int .i64 ((rd_T40 l0 x4_1).f0), .int .i64 t309] 72 (0, 0)) (zz7 BK310) k_ hk⟩))
       (case aO => exact zz12 HO350)
       (case aS => exact zz14 GE310)
       (case aL => exact zz3 LMc45)
       intro v356 w59 ho hb hg hat
       rw [← Ny355.out] at ho
       replace BK310 := Aside0.mk (blk_grown (g := gb310) (o := .cells #[.int .i64 ((rd_T40 l0 x4_1).f0), .int .i64 t309] 72 (0, 0)) (zz7 BK310) hg (Kd.R_away HO350.out (fun _ hk => hk.2.2)))
       replace HO347 := Aside0.mk (Kd.R_after (ok := (fun k_ => some k_ ≠ (.slice Ao47 x3_1.length co47 : Value).ownBlock ∧ k_ ≠ gb310)) (zz12 HO347) hg hat)
       replace HB := Aside0.mk hb
       replace HR341 := Aside0.mk (show Kd.C k72 w59 Ao47 y338.length y338 from by rw [Ny338.out]; exact Kd.C_take (m := (x6_2 : Int).toNat) ((Kd.R_reads' (Kd.R_after (ok := (fun k_ => some k_ ≠ (.slice Ao58 y345.length co58 : Value).ownBlock ∧ k_ ≠ gb310)) (zz12 HO_3) hg hat)).2.2) KL49.out)
       replace HR354 := Aside0.mk (show Kd.C k72 w59 A50 y351.length y351 from by rw [Ny351.out, KA50.out]; exact Kd.C_drop (m := (x6_2 : Int).toNat) (c := co47) ((Kd.R_reads' (Kd.R_after (ok := (fun k_ => some k_ ≠ (.slice Ao58 y345.length co58 : Value).ownBlock ∧ k_ ≠ gb310)) (zz12 HO_3) hg hat)).2.2) KL50.out ((Kd.R_reads' (Kd.R_after (ok := (fun k_ => some k_ ≠ (.slice Ao58 y345.length co58 : Value).ownBlock ∧ k_ ≠ gb310)) (zz12 HO_3) hg hat)).2.1))
       replace HO_3 := Aside0.mk (Kd.R_after (ok := (fun k_ => some k_ ≠ (.slice Ao58 y345.length co58 : Value).ownBlock ∧ k_ ≠ gb310)) (zz12 HO_3) hg hat)
       have HO357 := Aside0.mk ho
       clear HO350 ho hb hg hat
       refine hK.out _ _ ⟨(blk_cell BK310.out 0).trans rfl, (blk_cell BK310.out 1).trans rfl⟩ (fun hHeld => ?_)
       clear hK K
       refine nm 55 ?_
       refine pu 12 3 (bm 13 8191) ?_
       refine done_ (done_of HT_.out (by kernel_rfl)) ?_
       try go_wp2
       go_roundg k2
       case measure => have := HK1.out; have := HK2.out; omega
       case rel => exact ⟨(y355), (wrap64 (x4_1 + 1)), zz1, H', ⟨by have := HK1.out; have := HK2.out; omega⟩, ⟨zz19 HO357⟩, ⟨zz6 GE310⟩⟩
   ·obtain ⟨y358, hy358⟩ : ∃ y_ : List (S72), y_ = (([] : List (S72))) := ⟨_, rfl⟩
    replace H : (spec_l2Spans.l2 k1 x3_1 y358 0) = some r := by first | (rw [hy358]; with_reducible exact H) | (have H2_ := (Option.bind_some _ _).symm.trans H; rw [hy358]; with_reducible exact H2_) | (have H2_ := (Option.bind_some _ _).symm.trans H; with_reducible exact H2_) | with_reducible exact H | (rw [hy358]; exact H) | exact H
    have Ny358 := Aside0.mk hy358
    clear hy358
    have H' := Aside0.mk H
    clear H
    go_wp2_with (first | (refine gt 56 ?_; refine rl k72 72 56 ([] : List (S72)) [] ?hp ?_; (case hp => exact zz34); intro v359 w60 ho61 hb hg_ hnew_; clear hg_ hnew_; (first | rw [← Ny358.out] at ho61 | (simp only [Int.reduceToNat] at ho61; rw [← Ny358.out] at ho61)); have HO360 := Aside0.mk (Kd.R_lower (Kd.R_new' ho61 (Kd.R_lt (zz12 HO_3))) (below_size zz5)); replace HO_3 := Aside0.mk (Kd.R_elder' (zz12 HO_3) (Kd.R_base ho61) hb); replace HB := Aside0.mk (below_step zz5 hb); clear hb ho61))
    go_loopg [7, 8] k1 (fun kq v7 v8 w' => ∃ (x3_2 : List (S72)) (x7_2 : List (S72)) (x8_2 : Int), v8 = .int .i64 x8_2 ∧ Aside0 (spec_l2Spans.l2 kq x3_2 x7_2 x8_2 = some r) ∧ Aside0 (kq ≤ k1) ∧ Aside0 (Kd.R k72 72 w' w.heap.size (fun k_ => some k_ ≠ (v7 : Value).ownBlock) u3 x3_2) ∧ Aside0 (Kd.R k72 72 w' w.heap.size (fun k_ => some k_ ≠ (u3 : Value).ownBlock) v7 x7_2) ∧ Aside0 (Below w.heap.size w w'))
    case atStart => exact ⟨(x3_1), (y358), (0), zz1, H', ⟨Nat.le_refl _⟩, ⟨zz21 HO_3⟩, ⟨zz21 HO360⟩, ⟨zz5⟩⟩
    case round =>
     clear H'
     try clear c1
     try clear c2
     try clear p2
     try clear c3
     try clear c4
     try clear c4b0
     try clear q4
     try clear c5
     try clear q5
     try clear p6
     try clear c39
     try clear c40
     try clear c41
     try clear c42
     try clear c45
     try clear q49
     try clear c50
     try clear q50
     try clear q050
     try clear q49
     try clear q50
     obtain ⟨x3_2, x7_2, x8_2, rfl, HA, HK2, HO_3, HO_7, HB⟩ := hrel
     cases gk with
     | zero => exact absurd HA.out (by simp [spec_l2Spans.l2])
     | succ k2 =>
      have H := HA.out
      clear HA
      simp only [spec_l2Spans.l2] at H
      replace H := ic H
      rcases H with ⟨c62b0, H⟩ | ⟨c62b0, H⟩
      ·have HC63 := Aside0.mk H
       clear H
       obtain ⟨Ao64, co64, eo64⟩ := Kd.R_slice HO_3.out
       subst eo64
       obtain ⟨Ao65, co65, eo65⟩ := Kd.R_slice HO_7.out
       subst eo65
       go_upto_region 15 with (fail)
       go_cut [81] (fun v81 wc => ∃ (kq : Nat) (x81_62 : Bool), v81 = .bool x81_62 ∧ Aside0 (spec_l2Spans.j3 kq x3_2 x7_2 x8_2 (wrap64 ((x7_2.length : Int) - 1)) x81_62 = some r) ∧ Aside0 (kq ≤ k2) ∧ Aside0 (Kd.R k72 72 wc w.heap.size (fun k_ => some k_ ≠ ((.slice Ao65 x7_2.length co65) : Value).ownBlock) (.slice Ao64 x3_2.length co64) x3_2) ∧ Aside0 (Kd.R k72 72 wc w.heap.size (fun k_ => some k_ ≠ ((.slice Ao64 x3_2.length co64) : Value).ownBlock) (.slice Ao65 x7_2.length co65) x7_2) ∧ Aside0 (Below w.heap.size w wc))
       case first =>
        have H := HC63.out
        clear HC63
        replace H := ic H
        rcases H with ⟨c66b0, H⟩ | ⟨c66b0, H⟩
        ·(first | rw [c66b0] | (simp only [i64_w, i32_w]; rw [c66b0]) | skip)
         replace H := gd H
         obtain ⟨c67b0, H⟩ := H
         obtain ⟨ji68, hji68⟩ : ∃ j_ : Int, (wrap64 ((x7_2.length : Int) - 1)) = j_ := ⟨_, rfl⟩
         replace H : (if 0 ≤ (ji68) then (if (ji68) < (x7_2.length : Int) then (spec_l2Spans.j3 k2 x3_2 x7_2 x8_2 ji68 (decide (((rd_T72 x3_2 x8_2).f0) ≤ (wrap64 (((rd_T72 x7_2 (ji68)).f1) + 1))))) else (none)) else (none)) = some r := by first | (rw [hji68] at H; exact H) | (simp only [hji68] at H ⊢; exact H)
         (try rw [hji68] at c66b0)
         have hji68w : (IntKind.i64.wrap ((x7_2.length : Int) - 1)) = ji68 := (i64_w _).trans hji68
         replace H := gd H
         obtain ⟨c69b0, H⟩ := H
         replace H := gd H
         obtain ⟨c70b0, H⟩ := H
         have H' := Aside0.mk H
         clear H
         try go_wp2
         replace HO_3 := Aside0.mk (Kd.R_drew HO_3.out)
         replace HO_7 := Aside0.mk (Kd.R_drew HO_7.out)
         replace HB := Aside0.mk (below_drew1 HB.out)
         obtain ⟨⟨ad361, e361, hx361_0, hx361_1⟩, p361, q361⟩ := wi (at_T72 (Kd.R_reads' HO_3.out).2.2 x8_2)
         cases e361
         obtain ⟨⟨ad362, e362, hx362_0, hx362_1⟩, p362, q362⟩ := wi (at_T72 (Kd.R_reads' HO_7.out).2.2 (ji68))
         cases e362
         refine start_ (n := 16) (S := fun w' => w'.cell? (ad361.add ((x8_2).toNat * 2)) = some (.int .i64 ((rd_T72 x3_2 x8_2).f0)) ∧ w'.cell? ⟨(ad361.add ((x8_2).toNat * 2)).block, (ad361.add ((x8_2).toNat * 2)).off + 1, none⟩ = some (.int .i64 ((rd_T72 x3_2 x8_2).f1)) ∧ w'.cell? (ad362.add (((ji68)).toNat * 2)) = some (.int .i64 ((rd_T72 x7_2 (ji68)).f0)) ∧ w'.cell? ⟨(ad362.add (((ji68)).toNat * 2)).block, (ad362.add (((ji68)).toNat * 2)).off + 1, none⟩ = some (.int .i64 ((rd_T72 x7_2 (ji68)).f1))) (ds := []) (bm 16 0) (by kernel_rfl) rfl rfl ⟨hx361_0, hx361_1, hx362_0, hx362_1⟩ (fun hHeld => ?_); refine with_tabW spec_l2Spans.tab15 spec_l2Spans.bits15 (fun HT_ HW_ => ?_)
         generalize wr.drew = w71 at HO_3 HO_7 HB hx361_0 hx361_1 hx362_0 hx362_1 hHeld ⊢
         refine pu 0 66 (bm 16 1) ?_
         refine pu 1 67 (bm 16 3) ?_
         refine pu 2 68 (bm 16 7) ?_
         refine pu 3 69 (bm 16 15) ?_
         refine pu 4 70 (bm 16 31) ?_
         refine pu 5 71 (bm 16 63) ?_
         refine pu 6 72 (bm 16 127) ?_
         refine pu 8 74 (bm 16 383) ?_
         refine pu 9 75 (bm 16 895) ?_
         refine pu 10 76 (bm 16 1919) ?_
         refine pu 11 77 (bm 16 3967) ?_
         refine tk 7 73 (bm 16 4095) ?_
         refine tk 12 78 (bm 16 8191) ?_
         refine pu 13 79 (bm 16 16383) ?_
         refine pu 14 80 (bm 16 32767) ?_
         refine pu 15 81 (bm 16 65535) ?_
         refine done_ (done_of HT_.out (by kernel_rfl)) ?_
         try go_wp2
         go_meet
         case rel => exact ⟨_, (decide (((rd_T72 x3_2 x8_2).f0) ≤ (wrap64 (((rd_T72 x7_2 (ji68)).f1) + 1)))), (by first | rfl | (simp; done) | (simp only [← hji68] <;> (first | rfl | simp)) | (simp [*]; done)), (by first | exact H' | (rw [hji68]; exact H') | (simp only [hji68]; exact H') | (simp only [← hji68] at H'; exact H')), ⟨by have := HK1.out; have := HK2.out; first | omega | exact Nat.le_refl _⟩, ⟨zz12 HO_3⟩, ⟨zz12 HO_7⟩, ⟨zz5⟩⟩
        ·(first | rw [c66b0] | (simp only [i64_w, i32_w]; rw [c66b0]) | skip)
         have H' := Aside0.mk H
         clear H
         try go_wp2
         replace HO_3 := Aside0.mk (Kd.R_drew HO_3.out)
         replace HO_7 := Aside0.mk (Kd.R_drew HO_7.out)
         replace HB := Aside0.mk (below_drew1 HB.out)
         refine start_ (n := 16) (S := fun w' => True) (ds := []) (bm 16 0) (by kernel_rfl) rfl rfl trivial (fun hHeld => ?_); refine with_tabW spec_l2Spans.tab15 spec_l2Spans.bits15 (fun HT_ HW_ => ?_)
         generalize wr.drew = w72 at HO_3 HO_7 HB hHeld ⊢
         refine pu 0 66 (bm 16 1) ?_
         refine pu 1 67 (bm 16 3) ?_
         refine pu 2 68 (bm 16 7) ?_
         refine po 3 69 (bm 16 15) ?_
         refine po 4 70 (bm 16 31) ?_
         refine po 5 71 (bm 16 63) ?_
         refine po 6 72 (bm 16 127) ?_
         refine po 7 73 (bm 16 255) ?_
         refine po 8 74 (bm 16 511) ?_
         refine po 9 75 (bm 16 1023) ?_
         refine po 10 76 (bm 16 2047) ?_
         refine po 11 77 (bm 16 4095) ?_
         refine po 12 78 (bm 16 8191) ?_
         refine po 13 79 (bm 16 16383) ?_
         refine po 14 80 (bm 16 32767) ?_
         refine pu 15 81 (bm 16 65535) ?_
         refine done_ (done_of HT_.out (by kernel_rfl)) ?_
         try go_wp2
         go_meet
         case rel => exact ⟨_, (false), zz1, H', ⟨by have := HK1.out; have := HK2.out; first | omega | exact Nat.le_refl _⟩, ⟨zz12 HO_3⟩, ⟨zz12 HO_7⟩, ⟨zz5⟩⟩
       case rest =>
        clear HC63
        try clear c1
        try clear c2
        try clear p2
        try clear c3
        try clear p3
        try clear q3
        try clear hx3
        try clear c4
        try clear c4b0
        try clear q4
        try clear c5
        try clear q5
        try clear c6
        try clear p6
        try clear c7
        try clear p36
        try clear q36
        try clear hx36
        try clear c39
        try clear c40
        try clear c41
        try clear c42
        try clear c45
        try clear q49
        try clear c50
        try clear q50
        try clear c62
        try clear c62b0
        try clear p64
        try clear c66
        try clear c66b0
        try clear c67
        try clear c67b0
        try clear c69
        try clear c69b0
        try clear c70
        try clear c70b0
        try clear hx361_0
        try clear hx361_1
        try clear hx362_0
        try clear hx362_1
        try clear p2
        try clear p361
        try clear p362
        try clear p6
        try clear q050
        try clear q361
        try clear q362
        try clear q4
        try clear q49
        try clear q5
        try clear q50
        obtain ⟨kq, x81_62, rfl, HA, HJ62, HO_3, HO_7, HB⟩ := hcut
        cases kq with
        | zero => exact absurd HA.out (by simp [spec_l2Spans.j3])
        | succ kj62 =>
         have H := HA.out
         clear HA
         simp only [spec_l2Spans.j3] at H
         by_cases c73 : x81_62 = true
         ·subst c73
          have H1 : (if 0 ≤ x8_2 then (if x8_2 < (x3_2.length : Int) then (if 0 ≤ (wrap64 ((x7_2.length : Int) - 1)) then (if (wrap64 ((x7_2.length : Int) - 1)) < (x7_2.length : Int) then (if ((rd_T72 x3_2 x8_2).f1) > ((rd_T72 x7_2 (wrap64 ((x7_2.length : Int) - 1))).f1) then (spec_l2Spans.l2 kj62 x3_2 (x7_2.set ((wrap64 ((x7_2.length : Int) - 1)) : Int).toNat (⟨(rd_T72 x7_2 (wrap64 ((x7_2.length : Int) - 1))).f0, (rd_T72 x3_2 x8_2).f1⟩ : S72)) (wrap64 (x8_2 + 1))) else (spec_l2Spans.l2 kj62 x3_2 x7_2 (wrap64 (x8_2 + 1)))) else (none)) else (none)) else (none)) else (none)) = some r := by rw [if_pos rfl] at H; exact H
          clear H
          have H := H1
          clear H1
          replace H := gd H
          obtain ⟨c74b0, H⟩ := H
          replace H := gd H
          obtain ⟨c75b0, H⟩ := H
          obtain ⟨ji76, hji76⟩ : ∃ j_ : Int, (wrap64 ((x7_2.length : Int) - 1)) = j_ := ⟨_, rfl⟩
          replace H : (if 0 ≤ (ji76) then (if (ji76) < (x7_2.length : Int) then (if ((rd_T72 x3_2 x8_2).f1) > ((rd_T72 x7_2 (ji76)).f1) then (spec_l2Spans.l2 kj62 x3_2 (x7_2.set ((ji76) : Int).toNat (⟨(rd_T72 x7_2 (ji76)).f0, (rd_T72 x3_2 x8_2).f1⟩ : S72)) (wrap64 (x8_2 + 1))) else (spec_l2Spans.l2 kj62 x3_2 x7_2 (wrap64 (x8_2 + 1)))) else (none)) else (none)) = some r := by first | (rw [hji76] at H; exact H) | (simp only [hji76] at H ⊢; exact H)
          have hji76w : (IntKind.i64.wrap ((x7_2.length : Int) - 1)) = ji76 := (i64_w _).trans hji76
          replace H := gd H
          obtain ⟨c77b0, H⟩ := H
          replace H := gd H
          obtain ⟨c78b0, H⟩ := H
          replace H := ic H
          rcases H with ⟨c79b0, H⟩ | ⟨c79b0, H⟩
          ·obtain ⟨y366, hy366⟩ : ∃ y_ : List (S72), y_ = (x7_2.set ((ji76) : Int).toNat (⟨(rd_T72 x7_2 (ji76)).f0, (rd_T72 x3_2 x8_2).f1⟩ : S72)) := ⟨_, rfl⟩
           replace H : (spec_l2Spans.l2 kj62 x3_2 y366 (wrap64 (x8_2 + 1))) = some r := by first | (rw [hy366]; with_reducible exact H) | (have H2_ := (Option.bind_some _ _).symm.trans H; rw [hy366]; with_reducible exact H2_) | (have H2_ := (Option.bind_some _ _).symm.trans H; with_reducible exact H2_) | with_reducible exact H | (rw [hy366]; exact H) | exact H
           have Ny366 := Aside0.mk hy366
           clear hy366
           have H' := Aside0.mk H
           clear H
           try go_wp2
           replace HO_3 := Aside0.mk (Kd.R_drew HO_3.out)
           replace HO_7 := Aside0.mk (Kd.R_drew HO_7.out)
           replace HB := Aside0.mk (below_drew1 HB.out)
           obtain ⟨⟨ad363, e363, hx363_0, hx363_1⟩, p363, q363⟩ := wi (at_T72 (Kd.R_reads' HO_3.out).2.2 x8_2)
           cases e363
           obtain ⟨⟨ad364, e364, hx364_0, hx364_1⟩, p364, q364⟩ := wi (at_T72 (Kd.R_reads' HO_7.out).2.2 (ji76))
           cases e364
           refine start_ (n := 11) (S := fun w' => w'.cell? (ad363.add ((x8_2).toNat * 2)) = some (.int .i64 ((rd_T72 x3_2 x8_2).f0)) ∧ w'.cell? ⟨(ad363.add ((x8_2).toNat * 2)).block, (ad363.add ((x8_2).toNat * 2)).off + 1, none⟩ = some (.int .i64 ((rd_T72 x3_2 x8_2).f1)) ∧ w'.cell? (ad364.add (((ji76)).toNat * 2)) = some (.int .i64 ((rd_T72 x7_2 (ji76)).f0)) ∧ w'.cell? ⟨(ad364.add (((ji76)).toNat * 2)).block, (ad364.add (((ji76)).toNat * 2)).off + 1, none⟩ = some (.int .i64 ((rd_T72 x7_2 (ji76)).f1))) (ds := []) (bm 11 0) (by kernel_rfl) rfl rfl ⟨hx363_0, hx363_1, hx364_0, hx364_1⟩ (fun hHeld => ?_); refine with_tabW spec_l2Spans.tab16 spec_l2Spans.bits16 (fun HT_ HW_ => ?_)
           generalize wc.drew = w81 at HO_3 HO_7 HB hx363_0 hx363_1 hx364_0 hx364_1 hHeld ⊢
           refine pu 0 82 (bm 11 1) ?_
           refine pu 1 83 (bm 11 3) ?_
           refine pu 2 84 (bm 11 7) ?_
           refine pu 3 85 (bm 11 15) ?_
           refine pu 5 87 (bm 11 47) ?_
           refine pu 6 88 (bm 11 111) ?_
           refine pu 7 89 (bm 11 239) ?_
           refine pu 8 90 (bm 11 495) ?_
           refine tk 4 86 (bm 11 511) ?_
           refine tk 9 91 (bm 11 1023) ?_
           refine pu 10 92 (bm 11 2047) ?_
           refine done_ (done_of HT_.out (by kernel_rfl)) ?_
           obtain ⟨⟨ad365, e365, hx365_0, hx365_1⟩, p365, q365⟩ := wi (at_T72 (Kd.R_reads' HO_3.out).2.2 x8_2)
           obtain rfl : ad363 = ad365 := (by injection e365)
           have p80 : 0 ≤ ((ji76) : Int) := da
           have q80 : ((ji76) : Int) < ((x7_2.length : Int) : Int) := da
           obtain ⟨go80, co80, eo80, gb80, gl80, cl80, HG80⟩ := Kd.R_form HO_7.out (by omega)
           (first | cases eo80 | (injection eo80 with ea_ en_ ec_; (first | subst ea_ | (injection ea_ with ea_; subst ea_)); subst ec_; clear en_))
           have GB80 := Aside0.mk gb80
           have GG80 := Aside0.mk HG80
           clear gb80 gl80 HG80
           (first | simp only [add_plain] at hx364_0 | skip)
           (first | simp only [add_plain] at hx364_1 | skip)
           obtain ⟨ce80, hcl80, hM80, hcc80, hfr80⟩ := Kd.R_elem HO_7.out z72 ((ji76) : Int) p80 q80
           obtain rfl := k72_openM hM80
           have hx80_0 : w81.cell? ⟨go80, ((ji76) : Int).toNat * 2, none⟩ = some (.int .i64 ((rd_T72 x7_2 (ji76)).f0)) := hcc80 0 _ rfl
           have hx80_1 : w81.cell? ⟨go80, ((ji76) : Int).toNat * 2 + 1, none⟩ = some (.int .i64 ((rd_T72 x7_2 (ji76)).f1)) := hcc80 1 _ rfl
           have hf80_0 : w81.frozen? ⟨go80, ((ji76) : Int).toNat * 2, none⟩ = false := hfr80 0
           have hf80_1 : w81.frozen? ⟨go80, ((ji76) : Int).toNat * 2 + 1, none⟩ = false := hfr80 1
           clear hcl80 hcc80 hfr80 hM80
           replace p80 := eq_true p80
           replace q80 := eq_true q80
           have HX82 := Aside0.mk (show Kd.R k72 72 w81 w.heap.size (fun k_ => some k_ ≠ (.slice (some ad363) x3_2.length co64 : Value).ownBlock) (.slice (some ⟨go80, 0, none⟩) x7_2.length co65) x7_2 from (zz12 HO_7))
           obtain ⟨ce82, hcl82, hM82, hcc82, hfr82⟩ := Kd.R_elem HX82.out z72 ((ji76) : Int) (of_decide_eq_true zz10) (by have h_ : ((ji76) : Int) < ((x7_2.length : Int) : Int) := of_decide_eq_true zz10; first | exact h_ | (have e_ := (Kd.R_reads' HO_7.out).1; omega) | simpa using h_)
           obtain rfl := k72_openM hM82
           have HP82 := Kd.R_seg HX82.out ((ji76) : Int) (of_decide_eq_true zz10) (by have h_ : ((ji76) : Int) < ((x7_2.length : Int) : Int) := of_decide_eq_true zz10; first | exact h_ | (have e_ := (Kd.R_reads' HO_7.out).1; omega) | simpa using h_) (seg := [.int .i64 ((rd_T72 x3_2 x8_2).f1)]) (j := 1) hcl82 hcc82 (show 2 ≤ 2 from by decide) (x' := (⟨(rd_T72 x7_2 (ji76)).f0, (rd_T72 x3_2 x8_2).f1⟩ : S72)) (k72_mkM _ _ _ (⟨(rd_T72 x7_2 (ji76)).f0, (rd_T72 x3_2 x8_2).f1⟩ : S72) ) (fun _ hk => hk)
           have hx82_1 := hcc82 1 _ rfl
           (try simp only [show (k72).sz = 2 from rfl, Nat.mul_one, Nat.add_zero] at hx82_1)
           have hf82_1 := hfr82 1
           (try simp only [show (k72).sz = 2 from rfl, Nat.mul_one, Nat.add_zero] at hf82_1)
           clear hcl82 hcc82 hfr82 hM82
           try go_wp2_with (first | ((with_reducible refine gate_store (t := 3) (p := 101) rfl ?_); refine store_event (t := 3) (p := 101) (v := ?vo_w83) (w1 := (w81.setCell ⟨go80, ((ji76) : Int).toNat * 2 + 1, none⟩ (.int .i64 ((rd_T72 x3_2 x8_2).f1)))) ?hg ?ho ?hn ?hr ?_; (case ho => rfl); (case hg => rfl); (case hn => rfl); (case hr => exact zz42); intro w83 hw; have hg : w81.grownBy w83 (some go80) := (by rw [hw]; exact HP82.2); have hp_ : Kd.R k72 72 w83 w.heap.size (fun k_ => some k_ ≠ (.slice (some ad363) x3_2.length co64 : Value).ownBlock) (.slice (some ⟨go80, 0, none⟩) x7_2.length co65) y366 := (by rw [hw, Ny366.out]; exact HP82.1); clear HP82; replace HO_3 := Aside0.mk (Kd.R_after (v := (.slice (some ⟨go80, 0, none⟩) x7_2.length co65)) (v1 := (.slice (some ⟨go80, 0, none⟩) x7_2.length co65)) (ok := (fun _ => True)) (by (with_reducible repeat (first | apply Kd.R_alloc | apply Kd.R_drewN | apply Kd.R_drew)); exact Kd.R_mono HO_3.out (fun _ hk => ⟨trivial, hk⟩)) hg (.inl rfl)); replace HO_7 := Aside0.mk hp_; replace HB := Aside0.mk (by rw [hw]; exact below_set (HB.out) GB80.out : Below w.heap.size w w83); clear hg hw hp_))
           go_roundg kj62
           case measure => have := HK1.out; have := HK2.out; have := HJ62.out; omega
           case rel => exact ⟨(x3_2), (y366), (wrap64 (x8_2 + 1)), zz1, H', ⟨zz59 HK1 HK2 HJ62⟩, ⟨zz21 HO_3⟩, ⟨zz12 HO_7⟩, ⟨zz5⟩⟩
          ·have H' := Aside0.mk H
           clear H
           try go_wp2
           replace HO_3 := Aside0.mk (Kd.R_drew HO_3.out)
           replace HO_7 := Aside0.mk (Kd.R_drew HO_7.out)
           replace HB := Aside0.mk (below_drew1 HB.out)
           obtain ⟨⟨ad363, e363, hx363_0, hx363_1⟩, p363, q363⟩ := wi (at_T72 (Kd.R_reads' HO_3.out).2.2 x8_2)
           cases e363
           obtain ⟨⟨ad364, e364, hx364_0, hx364_1⟩, p364, q364⟩ := wi (at_T72 (Kd.R_reads' HO_7.out).2.2 (ji76))
           cases e364
           refine start_ (n := 11) (S := fun w' => w'.cell? (ad363.add ((x8_2).toNat * 2)) = some (.int .i64 ((rd_T72 x3_2 x8_2).f0)) ∧ w'.cell? ⟨(ad363.add ((x8_2).toNat * 2)).block, (ad363.add ((x8_2).toNat * 2)).off + 1, none⟩ = some (.int .i64 ((rd_T72 x3_2 x8_2).f1)) ∧ w'.cell? (ad364.add (((ji76)).toNat * 2)) = some (.int .i64 ((rd_T72 x7_2 (ji76)).f0)) ∧ w'.cell? ⟨(ad364.add (((ji76)).toNat * 2)).block, (ad364.add (((ji76)).toNat * 2)).off + 1, none⟩ = some (.int .i64 ((rd_T72 x7_2 (ji76)).f1))) (ds := []) (bm 11 0) (by kernel_rfl) rfl rfl ⟨hx363_0, hx363_1, hx364_0, hx364_1⟩ (fun hHeld => ?_); refine with_tabW spec_l2Spans.tab16 spec_l2Spans.bits16 (fun HT_ HW_ => ?_)
           generalize wc.drew = w84 at HO_3 HO_7 HB hx363_0 hx363_1 hx364_0 hx364_1 hHeld ⊢
           refine pu 0 82 (bm 11 1) ?_
           refine pu 1 83 (bm 11 3) ?_
           refine pu 2 84 (bm 11 7) ?_
           refine pu 3 85 (bm 11 15) ?_
           refine pu 5 87 (bm 11 47) ?_
           refine pu 6 88 (bm 11 111) ?_
           refine pu 7 89 (bm 11 239) ?_
           refine pu 8 90 (bm 11 495) ?_
           refine tk 4 86 (bm 11 511) ?_
           refine tk 9 91 (bm 11 1023) ?_
           refine pu 10 92 (bm 11 2047) ?_
           refine done_ (done_of HT_.out (by kernel_rfl)) ?_
           try go_wp2
           go_roundg kj62
           case measure => have := HK1.out; have := HK2.out; have := HJ62.out; omega
           case rel => exact ⟨(x3_2), (x7_2), (wrap64 (x8_2 + 1)), zz1, H', ⟨zz59 HK1 HK2 HJ62⟩, ⟨zz12 HO_3⟩, ⟨zz12 HO_7⟩, ⟨zz5⟩⟩
         ·replace c73 := Bool.eq_false_iff.mpr c73
          subst c73
          have H1 : (if 0 ≤ x8_2 then (if x8_2 < (x3_2.length : Int) then ((some (([(⟨(rd_T72 x3_2 x8_2).f0, (rd_T72 x3_2 x8_2).f1⟩ : S72)] : List (S72)) : List (S72))).bind fun y368 => (if x7_2.length + y368.length < 8796093022208 then (spec_l2Spans.l2 kj62 x3_2 (x7_2 ++ y368) (wrap64 (x8_2 + 1))) else (none))) else (none)) else (none)) = some r := by rw [if_neg (show ¬ (false = true) by decide)] at H; exact H
          clear H
          have H := H1
          clear H1
          replace H := gd H
          obtain ⟨c85b0, H⟩ := H
          replace H := gd H
          obtain ⟨c86b0, H⟩ := H
          obtain ⟨y368, hy368⟩ : ∃ y_ : List (S72), y_ = (([(⟨(rd_T72 x3_2 x8_2).f0, (rd_T72 x3_2 x8_2).f1⟩ : S72)] : List (S72))) := ⟨_, rfl⟩
          replace H : (if x7_2.length + y368.length < 8796093022208 then (spec_l2Spans.l2 kj62 x3_2 (x7_2 ++ y368) (wrap64 (x8_2 + 1))) else (none)) = some r := by first | (rw [hy368]; with_reducible exact H) | (have H2_ := (Option.bind_some _ _).symm.trans H; rw [hy368]; with_reducible exact H2_) | (have H2_ := (Option.bind_some _ _).symm.trans H; with_reducible exact H2_) | with_reducible exact H | (rw [hy368]; exact H) | exact H
          have Ny368 := Aside0.mk hy368
          clear hy368
          replace H := gp H
          obtain ⟨c87, H⟩ := H
          have LMc87 := Aside0.mk c87
          clear c87
          obtain ⟨y371, hy371⟩ : ∃ y_ : List (S72), y_ = (x7_2 ++ y368) := ⟨_, rfl⟩
          replace H : (spec_l2Spans.l2 kj62 x3_2 y371 (wrap64 (x8_2 + 1))) = some r := by first | (rw [hy371]; with_reducible exact H) | (have H2_ := (Option.bind_some _ _).symm.trans H; rw [hy371]; with_reducible exact H2_) | (have H2_ := (Option.bind_some _ _).symm.trans H; with_reducible exact H2_) | with_reducible exact H | (rw [hy371]; exact H) | exact H
          have Ny371 := Aside0.mk hy371
          clear hy371
          have H' := Aside0.mk H
          clear H
          obtain ⟨⟨ad367, e367, hx367_0, hx367_1⟩, p367, q367⟩ := wi (at_T72 (Kd.R_reads' HO_3.out).2.2 x8_2)
          cases e367
          go_wp2_with (first | (refine gt 107 ?_; refine rl k72 72 107 ([(⟨(rd_T72 x3_2 x8_2).f0, (rd_T72 x3_2 x8_2).f1⟩ : S72)] : List (S72)) [.int .i64 ((rd_T72 x3_2 x8_2).f0), .int .i64 ((rd_T72 x3_2 x8_2).f1)] ?hp ?_; (case hp => exact (Reps.c2 (show Kd.M k72 _ _ _ (⟨(rd_T72 x3_2 x8_2).f0, (rd_T72 x3_2 x8_2).f1⟩ : S72) [.int .i64 ((rd_T72 x3_2 x8_2).f0), .int .i64 ((rd_T72 x3_2 x8_2).f1)] from (k72_mkM _ _ _ (⟨(rd_T72 x3_2 x8_2).f0, (rd_T72 x3_2 x8_2).f1⟩ : S72) )) (Reps.none _ _))); intro v369 w88 ho89 hb hg_ hnew_; clear hg_ hnew_; (first | rw [← Ny368.out] at ho89 | (simp only [Int.reduceToNat] at ho89; rw [← Ny368.out] at ho89)); have HO370 := Aside0.mk (Kd.R_lower (Kd.R_new' (Kd.R_new' ho89 (Kd.R_lt (zz12 HO_3))) (Kd.R_lt (zz12 HO_7))) (below_size zz5)); replace HO_3 := Aside0.mk (Kd.R_elder' (zz12 HO_3) (Kd.R_base ho89) hb); replace HO_7 := Aside0.mk (Kd.R_elder' (zz12 HO_7) (Kd.R_base ho89) hb); replace HB := Aside0.mk (below_step zz5 hb); clear hb ho89; obtain ⟨Ao91, co91, eo91⟩ := Kd.R_slice HO370.out; subst eo91) | ((with_reducible refine gate_builtin (b := .append) (xs := #[.tmp 102, .tmp 107]) rfl ?_); at_builtin; refine Kd.R_append_rows k72 (w0 := w) w.heap.size rfl (.tmp 102) (.tmp 107) 73 72 (.agg #[(.int .i64 0), (.int .i64 0)]) 16 rfl Try.underlying73 info72 rfl (by decide) (by omega) (.slice Ao65 x7_2.length co65) x7_2 y368 _ _ _ (fun k_ => some k_ ≠ (.slice (some ad367) x3_2.length co64 : Value).ownBlock ∧ some k_ ≠ (.slice Ao91 y368.length co91 : Value).ownBlock) (fun _ => False) rfl rfl ?aO ?aR (fun _ _ h => h) (fun _ h => h.elim) ?aF ?aB ?aS ?aL ?_; (case aR => exact zz20 HO370); (case aB => exact zz5); (case aF => exact (fun k_ hk => ⟨Kd.fresh' (Kd.R_lt (zz12 HO_3)) k_ hk, Kd.fresh' (Kd.R_lt (zz12 HO370)) k_ hk⟩)); (case aO => exact zz12 HO_7); (case aS => exact zz60); (case aL => exact zz3 LMc87); intro v372 w90 ho hb hg hat; rw [← Ny371.out] at ho; replace HO_3 := Aside0.mk (Kd.R_after (ok := (fun k_ => some k_ ≠ (.slice Ao91 y368.length co91 : Value).ownBlock)) (zz18 HO_3) hg hat); replace HO370 := Aside0.mk (Kd.R_after (ok := (fun k_ => some k_ ≠ (.slice (some ad367) x3_2.length co64 : Value).ownBlock)) (zz47 HO370) hg hat); replace HB := Aside0.mk hb; have HO373 := Aside0.mk ho; clear HO_7 ho hb hg hat))
          go_roundg kj62
          case measure => have := HK1.out; have := HK2.out; have := HJ62.out; omega
          case rel => exact ⟨(x3_2), (y371), (wrap64 (x8_2 + 1)), zz1, H', ⟨zz59 HK1 HK2 HJ62⟩, ⟨zz21 HO_3⟩, ⟨zz61 HO373⟩, ⟨zz5⟩⟩
      ·obtain rfl := Option.some.inj H
       obtain ⟨Ao92, co92, eo92⟩ := Kd.R_slice HO_3.out
       subst eo92
       go_wp2
       go_ret
       exact ⟨_, zz8, zz19 HO_7, zz5⟩
end Go.Proofs.Ythkjkmgbdahggaa.PL
