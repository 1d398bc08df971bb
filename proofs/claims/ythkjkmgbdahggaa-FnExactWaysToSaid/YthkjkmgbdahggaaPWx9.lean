/- A text printed by this session's wip/myprint.py over the kit's print: contracts of functions of the given program, each at what its Lean function says. -/
import Derived.Test.YthkjkmgbdahggaaPWx0
namespace Go.Proofs.Ythkjkmgbdahggaa.PW
open Go.RowKit Go.Proofs.YthkjkmgbdahggaaW.PrintWords Go.Proofs.YthkjkmgbdahggaaW.PrintLast Go.Proofs.YthkjkmgbdahggaaW.PrintMore Go.Proofs.Ythkjkmgbdahggaa.Sq
attribute [local go_sem] max2_int min2_int max_two min_two max_three min_three max_four min_four   -- for this text's walks alone
set_option linter.unusedVariables false
set_option linter.unusedSimpArgs false

/-! ### impl_span_98: function 98 -/
def impl_span_98.f (l0 : List S68) : Option (List S68) := if l0.length < 8796093022208 then some ((Go.Proofs.Ythkjkmgbdahggaa.Srt.srt (l0.map fun x => (x.f0, x.f1))).map fun x => ⟨x.1, x.2⟩) else none
theorem impl_span_98.spans {w : World} {A0 : Option Addr} {c0 : Nat} {l0 : List S68} (hr0 : Kd.C k68 w A0 l0.length l0) : Go.Proofs.Ythkjkmgbdahggaa.Srt.Spans w.heap.size w (.slice A0 l0.length c0) (l0.map fun x => (x.f0, x.f1)) := by
 by_cases h0 : l0 = []
 ·subst h0; exact .inl ⟨A0, c0, rfl, rfl⟩
 ·have hp : 0 < l0.length := List.length_pos_iff.2 h0
  obtain ⟨ad, rfl, hc, _⟩ := at_T68 hr0 0 (by omega) (by omega)
  have hbl := World.block_lt_of_cell? _ _ hc
  obtain ⟨b, o, sp⟩ := ad
  have hsp : sp = none := by
   cases sp with
   | none => rfl
   | some x =>
    rw [show ((⟨b, o, some x⟩ : Addr).add ((0 : Int).toNat * 2)) = ⟨b, o, some x⟩ from rfl] at hc
    unfold World.cell? at hc
    split at hc <;> simp at hc
  subst hsp
  refine .inr ⟨b, o, c0, by simp, hbl, fun j hj => ?_⟩
  simp only [List.length_map] at hj
  obtain ⟨ad, e, h1, h2⟩ := at_T68 hr0 (j : Int) (by omega) (by omega)
  cases e
  have ee : (l0.map fun x => (x.f0, x.f1))[j]! = ((rd_T68 l0 (j : Int)).f0, (rd_T68 l0 (j : Int)).f1) := by
   rw [getElem!_pos _ j (by simpa using hj)]; simp [rd_T68, hj]
  rw [ee]
  have ea : (⟨b, o, none⟩ : Addr).add ((j : Int).toNat * 2) = ⟨b, o + j * 2, none⟩ := by
   unfold Addr.add; split
   ·rename_i h; simp at h; simp [h]
   ·simp
  rw [ea] at h1 h2
  exact ⟨h1, h2⟩
theorem impl_span_98.calls (A0 : Option Addr) (c0 : Nat) (l0 : List S68) (r : List S68) (w : World) (hr0 : Kd.C k68 w A0 l0.length l0) (hc0 : l0.length ≤ c0) (h : impl_span_98.f l0 = some r) :
  Calls Try.prog 98 #[.func (.func 111) #[] #[.pointer (some ⟨w.heap.size, 0, none⟩)], .func (.func 100) #[] #[]] (w.alloc (.cells #[.slice A0 l0.length c0] 75)) fun e w' => ∃ v0_ : Value, e = .returned (v0_) ∧ Kd.R k68 68 w' w.heap.size (fun _ => True) v0_ r ∧ Below w.heap.size w w' := by
 unfold impl_span_98.f at h
 split at h
 ·rename_i hl
  obtain rfl := Option.some.inj h
  have hB : Below w.heap.size w (w.alloc (.cells #[.slice A0 l0.length c0] 75)) := (Below.refl _ w).alloc (Nat.le_refl _) _
  refine (Go.Proofs.Ythkjkmgbdahggaa.Srt.sorted w.heap.size (.slice A0 l0.length c0) (l0.map fun x => (x.f0, x.f1)) (by simp; omega) (by unfold maxLen; simp; omega) _ (by simp) (Boxed.new w _ _).cell ((impl_span_98.spans hr0).below hB |> Go.Proofs.Ythkjkmgbdahggaa.Srt.Spans.mono (by simp))).mono ?_
  rintro e w' ⟨v, rfl, hrow, hb⟩
  have hlen := (Go.Proofs.Ythkjkmgbdahggaa.Srt.srt_spec (l0.map fun x => (x.f0, x.f1))).1.length_eq
  refine ⟨v, rfl, ⟨fun _ _ => trivial, (Go.Proofs.Ythkjkmgbdahggaa.Srt.srt (l0.map fun x => (x.f0, x.f1))).flatMap Go.Proofs.Ythkjkmgbdahggaa.Srt.encX, ?_, ⟨?_, ?_⟩⟩, hB.trans (hb.mono (by simp))⟩
  ·simp only [List.length_map] at hrow hlen ⊢
   rw [hlen]
   exact own_weaken hrow (by simp)
  ·rw [Go.Proofs.Ythkjkmgbdahggaa.Srt.flat_length]; simp [show k68.sz = 2 from rfl]
  ·intro j p hj
   rw [List.getElem?_map, Option.map_eq_some_iff] at hj
   obtain ⟨x, hx, rfl⟩ := hj
   rw [show k68.sz = 2 from rfl, Go.Proofs.Ythkjkmgbdahggaa.Srt.flat_drop _ _ _ hx]
   exact k68_mkM _ _ _ _
 ·cases h

-- NOT PRINTED: function 99 (impl_span_99)

/-! ### cmp_isNaN_int: function 112 -/
def cmp_isNaN_int.f (a0 : Int) : Option (Bool) := some (a0 != a0)
set_option maxHeartbeats 8000000 in
set_option maxRecDepth 100000 in
theorem cmp_isNaN_int.calls (a0 : Int) (r : Bool) (w : World) (h : cmp_isNaN_int.f a0 = some r) :
  Calls Try.prog 112 #[.int .i64 a0] w fun e w' => e = .returned (.bool r) ∧ Drawn0 w w' := by
 have H : (some (a0 != a0)) = some r := h
 clear h
 obtain rfl := Option.some.inj H
 go_enter Try.func112, Try.ntmps112
 go_wp2
 go_ret
 exact ⟨zz8, zz10⟩

/-! ### cmp_Compare_int: function 101 -/
def cmp_Compare_int.f (a0 : Int) (a1 : Int) : Option (Int) := (cmp_isNaN_int.f a0).bind fun t302 => ((cmp_isNaN_int.f a1).bind fun t303 => (if t302 = true then (if t303 = true then (some 0) else (some (-1))) else (if t303 = true then (some 1) else (if a0 < a1 then (some (-1)) else (if a0 > a1 then (some 1) else (some 0))))))
set_option maxHeartbeats 8000000 in
set_option maxRecDepth 100000 in
theorem cmp_Compare_int.calls (a0 : Int) (a1 : Int) (r : Int) (w : World) (h : cmp_Compare_int.f a0 a1 = some r) :
  Calls Try.prog 101 #[.int .i64 a0, .int .i64 a1] w fun e w' => e = .returned (.int .i64 r) ∧ Drawn0 w w' := by
 have H : ((cmp_isNaN_int.f a0).bind fun t302 => ((cmp_isNaN_int.f a1).bind fun t303 => (if t302 = true then (if t303 = true then (some 0) else (some (-1))) else (if t303 = true then (some 1) else (if a0 < a1 then (some (-1)) else (if a0 > a1 then (some 1) else (some 0))))))) = some r := h
 clear h
 replace H := bd H
 obtain ⟨t302, A3, H⟩ := H
 replace H : ((cmp_isNaN_int.f a1).bind fun t303 => (if t302 = true then (if t303 = true then (some 0) else (some (-1))) else (if t303 = true then (some 1) else (if a0 < a1 then (some (-1)) else (if a0 > a1 then (some 1) else (some 0)))))) = some r := H
 replace H := bd H
 obtain ⟨t303, A4, H⟩ := H
 replace H : (if t302 = true then (if t303 = true then (some 0) else (some (-1))) else (if t303 = true then (some 1) else (if a0 < a1 then (some (-1)) else (if a0 > a1 then (some 1) else (some 0))))) = some r := H
 by_cases c5 : t302 = true
 ·subst c5
  have H1 : (if t303 = true then (some 0) else (some (-1))) = some r := by rw [if_pos rfl] at H; exact H
  clear H
  have H := H1
  clear H1
  by_cases c6 : t303 = true
  ·subst c6
   have H1 : (some 0) = some r := by rw [if_pos rfl] at H; exact H
   clear H
   have H := H1
   clear H1
   obtain rfl := Option.some.inj H
   go_enter Try.func101, Try.ntmps101
   go_wp2_with (first | (refine gc (some 8) Try.func112 #[.int .i64 a0] ?_; (with_reducible refine (cmp_isNaN_int.calls a0 true _ A3.out).mono ?_); rintro e w' ⟨rfl, ⟨nd, rfl⟩⟩; refine ⟨_, rfl, ?_⟩) | (refine gc (some 10) Try.func112 #[.int .i64 a1] ?_; (with_reducible refine (cmp_isNaN_int.calls a1 true _ A4.out).mono ?_); rintro e w' ⟨rfl, ⟨nd, rfl⟩⟩; refine ⟨_, rfl, ?_⟩))
   go_ret
   exact ⟨zz8, zz10⟩
  ·replace c6 := Bool.eq_false_iff.mpr c6
   subst c6
   have H1 : (some (-1)) = some r := by rw [if_neg (show ¬ (false = true) by decide)] at H; exact H
   clear H
   have H := H1
   clear H1
   obtain rfl := Option.some.inj H
   go_enter Try.func101, Try.ntmps101
   go_wp2_with (first | (refine gc (some 8) Try.func112 #[.int .i64 a0] ?_; (with_reducible refine (cmp_isNaN_int.calls a0 true _ A3.out).mono ?_); rintro e w' ⟨rfl, ⟨nd, rfl⟩⟩; refine ⟨_, rfl, ?_⟩) | (refine gc (some 10) Try.func112 #[.int .i64 a1] ?_; (with_reducible refine (cmp_isNaN_int.calls a1 false _ A4.out).mono ?_); rintro e w' ⟨rfl, ⟨nd, rfl⟩⟩; refine ⟨_, rfl, ?_⟩))
   go_ret
   exact ⟨zz8, zz10⟩
 ·replace c5 := Bool.eq_false_iff.mpr c5
  subst c5
  have H1 : (if t303 = true then (some 1) else (if a0 < a1 then (some (-1)) else (if a0 > a1 then (some 1) else (some 0)))) = some r := by rw [if_neg (show ¬ (false = true) by decide)] at H; exact H
  clear H
  have H := H1
  clear H1
  by_cases c7 : t303 = true
  ·subst c7
   have H1 : (some 1) = some r := by rw [if_pos rfl] at H; exact H
   clear H
   have H := H1
   clear H1
   obtain rfl := Option.some.inj H
   go_enter Try.func101, Try.ntmps101
   go_wp2_with (first | (refine gc (some 8) Try.func112 #[.int .i64 a0] ?_; (with_reducible refine (cmp_isNaN_int.calls a0 false _ A3.out).mono ?_); rintro e w' ⟨rfl, ⟨nd, rfl⟩⟩; refine ⟨_, rfl, ?_⟩) | (refine gc (some 10) Try.func112 #[.int .i64 a1] ?_; (with_reducible refine (cmp_isNaN_int.calls a1 true _ A4.out).mono ?_); rintro e w' ⟨rfl, ⟨nd, rfl⟩⟩; refine ⟨_, rfl, ?_⟩))
   go_ret
   exact ⟨zz8, zz10⟩
  ·replace c7 := Bool.eq_false_iff.mpr c7
   subst c7
   have H1 : (if a0 < a1 then (some (-1)) else (if a0 > a1 then (some 1) else (some 0))) = some r := by rw [if_neg (show ¬ (false = true) by decide)] at H; exact H
   clear H
   have H := H1
   clear H1
   replace H := ic H
   rcases H with ⟨c8b0, H⟩ | ⟨c8b0, H⟩
   ·obtain rfl := Option.some.inj H
    go_enter Try.func101, Try.ntmps101
    go_wp2_with (first | (refine gc (some 8) Try.func112 #[.int .i64 a0] ?_; (with_reducible refine (cmp_isNaN_int.calls a0 false _ A3.out).mono ?_); rintro e w' ⟨rfl, ⟨nd, rfl⟩⟩; refine ⟨_, rfl, ?_⟩) | (refine gc (some 10) Try.func112 #[.int .i64 a1] ?_; (with_reducible refine (cmp_isNaN_int.calls a1 false _ A4.out).mono ?_); rintro e w' ⟨rfl, ⟨nd, rfl⟩⟩; refine ⟨_, rfl, ?_⟩))
    go_ret
    exact ⟨zz8, zz10⟩
   ·replace H := ic H
    rcases H with ⟨c9b0, H⟩ | ⟨c9b0, H⟩
    ·obtain rfl := Option.some.inj H
     go_enter Try.func101, Try.ntmps101
     go_wp2_with (first | (refine gc (some 8) Try.func112 #[.int .i64 a0] ?_; (with_reducible refine (cmp_isNaN_int.calls a0 false _ A3.out).mono ?_); rintro e w' ⟨rfl, ⟨nd, rfl⟩⟩; refine ⟨_, rfl, ?_⟩) | (refine gc (some 10) Try.func112 #[.int .i64 a1] ?_; (with_reducible refine (cmp_isNaN_int.calls a1 false _ A4.out).mono ?_); rintro e w' ⟨rfl, ⟨nd, rfl⟩⟩; refine ⟨_, rfl, ?_⟩))
     go_ret
     exact ⟨zz8, zz10⟩
    ·obtain rfl := Option.some.inj H
     go_enter Try.func101, Try.ntmps101
     go_wp2_with (first | (refine gc (some 8) Try.func112 #[.int .i64 a0] ?_; (with_reducible refine (cmp_isNaN_int.calls a0 false _ A3.out).mono ?_); rintro e w' ⟨rfl, ⟨nd, rfl⟩⟩; refine ⟨_, rfl, ?_⟩) | (refine gc (some 10) Try.func112 #[.int .i64 a1] ?_; (with_reducible refine (cmp_isNaN_int.calls a1 false _ A4.out).mono ?_); rintro e w' ⟨rfl, ⟨nd, rfl⟩⟩; refine ⟨_, rfl, ?_⟩))
     go_ret
     exact ⟨zz8, zz10⟩

/-! ### impl_union_1: function 100 -/
def impl_union_1.f (a0_0 : Int) (a0_1 : Int) (a1_0 : Int) (a1_1 : Int) : Option (Int) := (cmp_Compare_int.f a0_0 a1_0).bind fun t306 => (some t306)
set_option maxHeartbeats 8000000 in
set_option maxRecDepth 100000 in
theorem impl_union_1.calls (a0_0 : Int) (a0_1 : Int) (a1_0 : Int) (a1_1 : Int) (r : Int) (w : World) (h : impl_union_1.f a0_0 a0_1 a1_0 a1_1 = some r) :
  Calls Try.prog 100 #[.agg #[.int .i64 a0_0, .int .i64 a0_1], .agg #[.int .i64 a1_0, .int .i64 a1_1]] w fun e w' => e = .returned (.int .i64 r) ∧ Below w.heap.size w w' := by
 have hu68 := Try.underlying68
 have HB := Aside0.mk (Below.refl w.heap.size w)
 have H : ((cmp_Compare_int.f a0_0 a1_0).bind fun t306 => (some t306)) = some r := h
 clear h
 replace H := bd H
 obtain ⟨t306, A3, H⟩ := H
 replace H : (some t306) = some r := H
 obtain rfl := Option.some.inj H
 go_enter Try.func100, Try.ntmps100
 go_wp2_with (first | (refine be 2 #[.int .i64 a0_0, .int .i64 a0_1] 68 ?_; intro gb304 hg w4 hbox hb; have BK304 := Aside0.mk hbox; have GW304 := Aside0.mk (zz1 : w.heap.size ≤ gb304); have GE304 := Aside0.mk (zz1 : w.heap.size ≤ gb304); replace HB := Aside0.mk (below_step zz2 hb); clear hb hbox hg) | (refine be 3 #[.int .i64 a1_0, .int .i64 a1_1] 68 ?_; intro gb305 hg w5 hbox hb; have BK305 := Aside0.mk hbox; have GW305 := Aside0.mk (zz3 GE304 : w.heap.size ≤ gb305); have GE305 := Aside0.mk (zz3 GE304 : w.heap.size ≤ gb305); replace HB := Aside0.mk (below_step (zz4 GE304) hb); have NB304_305 := Aside0.mk (by rw [hg]; exact Nat.ne_of_lt (blk_lt (g := gb304) (o := .cells #[.int .i64 a0_0, .int .i64 a0_1] 68 (0, 0)) (zz5 BK304)) : gb304 ≠ gb305); have NB305_304 := Aside0.mk (by rw [hg]; exact Nat.ne_of_gt (blk_lt (g := gb304) (o := .cells #[.int .i64 a0_0, .int .i64 a0_1] 68 (0, 0)) (zz5 BK304)) : gb305 ≠ gb304); replace BK304 := Aside0.mk (blk_below (g := gb304) (o := .cells #[.int .i64 a0_0, .int .i64 a0_1] 68 (0, 0)) (zz5 BK304) hb); clear hb hbox hg; have hnb6 := NB304_305.out; have hnc6 := NB305_304.out; have hcz7_0 : w5.cell? ⟨gb304, 0, none⟩ = some (.int .i64 a0_0) := (blk_cell BK304.out 0).trans rfl; have hcz7_1 : w5.cell? ⟨gb304, 1, none⟩ = some (.int .i64 a0_1) := (blk_cell BK304.out 1).trans rfl; have hfz7_0 := blk_frozen BK304.out 0; have hfz7_1 := blk_frozen BK304.out 1; have hcz8_0 : w5.cell? ⟨gb305, 0, none⟩ = some (.int .i64 a1_0) := (blk_cell BK305.out 0).trans rfl; have hcz8_1 : w5.cell? ⟨gb305, 1, none⟩ = some (.int .i64 a1_1) := (blk_cell BK305.out 1).trans rfl; have hfz8_0 := blk_frozen BK305.out 0; have hfz8_1 := blk_frozen BK305.out 1) | (refine gc (some 9) Try.func101 #[.int .i64 a0_0, .int .i64 a1_0] ?_; (with_reducible refine (cmp_Compare_int.calls a0_0 a1_0 t306 _ A3.out).mono ?_); rintro e w' ⟨rfl, ⟨nd, rfl⟩⟩; refine ⟨_, rfl, ?_⟩))
 go_ret
 exact ⟨zz6, zz7 GE304 GE305⟩

end Go.Proofs.Ythkjkmgbdahggaa.PW
