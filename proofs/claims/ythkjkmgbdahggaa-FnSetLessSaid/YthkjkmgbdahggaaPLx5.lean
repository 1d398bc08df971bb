/- A text printed by this session's wip/myprint.py over the kit's print: contracts of functions of the given program, each at what its Lean function says. -/
import Derived.Test.YthkjkmgbdahggaaPLx0
namespace Go.Proofs.Ythkjkmgbdahggaa.PL
open Go.RowKit Go.Proofs.YthkjkmgbdahggaaW.PrintWords Go.Proofs.YthkjkmgbdahggaaW.PrintLast Go.Proofs.YthkjkmgbdahggaaW.PrintMore Go.Proofs.Ythkjkmgbdahggaa.Sq
attribute [local go_sem] max2_int min2_int max_two min_two max_three min_three max_four min_four   -- for this text's walks alone
set_option linter.unusedVariables false
set_option linter.unusedSimpArgs false
def impl_span_98.f (l0 : List S68) : Option (List S68) := if l0.length < 8796093022208 then some ((Go.Proofs.Ythkjkmgbdahggaa.Srt.srt (l0.map fun x => (x.f0, x.f1))).map fun x => ⟨x.1, x.2⟩) else none
theorem impl_span_98.spans {w : World} {A0 : Option Addr} {c0 : Nat} {l0 : List S68} (hr0 : Kd.C k68 w A0 l0.length l0) : Go.Proofs.Ythkjkmgbdahggaa.Srt.Spans w.heap.size w (.slice A0 l0.length c0) (l0.map fun x => (x.f0, x.f1)) := by
 by_cases h0 : l0 = []
 ·subst h0; exact .inl ⟨A0, c0, rfl, rfl⟩
 ·have hp : 0 < l0.length := List.length_pos_iff.2 h0
  obtain ⟨ad, rfl, hc, _⟩ := at_T68 hr0 0 (by omega) (by omega)
  have hbl := World.block_lt_of_cell? _ _ hc
  obtain ⟨b, o, sp⟩ := ad
  have hsp : sp = none := by
   cases sp with
   | none => rfl
   | some x =>
    rw [show ((⟨b, o, some x⟩ : Addr).add ((0 : Int).toNat * 2)) = ⟨b, o, some x⟩ from rfl] at hc
    unfold World.cell? at hc
    split at hc <;> simp at hc
  subst hsp
  refine .inr ⟨b, o, c0, by simp, hbl, fun j hj => ?_⟩
  simp only [List.length_map] at hj
  obtain ⟨ad, e, h1, h2⟩ := at_T68 hr0 (j : Int) (by omega) (by omega)
  cases e
  have ee : (l0.map fun x => (x.f0, x.f1))[j]! = ((rd_T68 l0 (j : Int)).f0, (rd_T68 l0 (j : Int)).f1) := by
   rw [getElem!_pos _ j (by simpa using hj)]; simp [rd_T68, hj]
  rw [ee]
  have ea : (⟨b, o, none⟩ : Addr).add ((j : Int).toNat * 2) = ⟨b, o + j * 2, none⟩ := by
   unfold Addr.add; split
   ·rename_i h; simp at h; simp [h]
   ·simp
  rw [ea] at h1 h2
  exact ⟨h1, h2⟩
theorem impl_span_98.calls (A0 : Option Addr) (c0 : Nat) (l0 : List S68) (r : List S68) (w : World) (hr0 : Kd.C k68 w A0 l0.length l0) (hc0 : l0.length ≤ c0) (h : impl_span_98.f l0 = some r) :
  Calls Try.prog 98 #[.func (.func 111) #[] #[.pointer (some ⟨w.heap.size, 0, none⟩)], .func (.func 100) #[] #[]] (w.alloc (.cells #[.slice A0 l0.length c0] 75)) fun e w' => ∃ v0_ : Value, e = .returned (v0_) ∧ Kd.R k68 68 w' w.heap.size (fun _ => True) v0_ r ∧ Below w.heap.size w w' := by
 unfold impl_span_98.f at h
 split at h
 ·rename_i hl
  obtain rfl := Option.some.inj h
  have hB : Below w.heap.size w (w.alloc (.cells #[.slice A0 l0.length c0] 75)) := (Below.refl _ w).alloc (Nat.le_refl _) _
  refine (Go.Proofs.Ythkjkmgbdahggaa.Srt.sorted w.heap.size (.slice A0 l0.length c0) (l0.map fun x => (x.f0, x.f1)) (by simp; omega) (by unfold maxLen; simp; omega) _ (by simp) (Boxed.new w _ _).cell ((impl_span_98.spans hr0).below hB |> Go.Proofs.Ythkjkmgbdahggaa.Srt.Spans.mono (by simp))).mono ?_
  rintro e w' ⟨v, rfl, hrow, hb⟩
  have hlen := (Go.Proofs.Ythkjkmgbdahggaa.Srt.srt_spec (l0.map fun x => (x.f0, x.f1))).1.length_eq
  refine ⟨v, rfl, ⟨fun _ _ => trivial, (Go.Proofs.Ythkjkmgbdahggaa.Srt.srt (l0.map fun x => (x.f0, x.f1))).flatMap Go.Proofs.Ythkjkmgbdahggaa.Srt.encX, ?_, ⟨?_, ?_⟩⟩, hB.trans (hb.mono (by simp))⟩
  ·simp only [List.length_map] at hrow hlen ⊢
   rw [hlen]
   exact own_weaken hrow (by simp)
  ·rw [Go.Proofs.Ythkjkmgbdahggaa.Srt.flat_length]; simp [show k68.sz = 2 from rfl]
  ·intro j p hj
   rw [List.getElem?_map, Option.map_eq_some_iff] at hj
   obtain ⟨x, hx, rfl⟩ := hj
   rw [show k68.sz = 2 from rfl, Go.Proofs.Ythkjkmgbdahggaa.Srt.flat_drop _ _ _ hx]
   exact k68_mkM _ _ _ _
 ·cases h
-- NOT PRINTED: function 99 (impl_span_99)
def cmp_isNaN_int.f (a0 : Int) : Option (Bool) := some (a0 != a0)
def cmp_Compare_int.f (a0 : Int) (a1 : Int) : Option (Int) := (cmp_isNaN_int.f a0).bind fun t147 => ((cmp_isNaN_int.f a1).bind fun t148 => (if t147 = true then (if t148 = true then (some 0) else (some (-1))) else (if t148 = true then (some 1) else (if a0 < a1 then (some (-1)) else (if a0 > a1 then (some 1) else (some 0))))))
def impl_union_1.f (a0_0 : Int) (a0_1 : Int) (a1_0 : Int) (a1_1 : Int) : Option (Int) := (cmp_Compare_int.f a0_0 a1_0).bind fun t151 => (some t151)
end Go.Proofs.Ythkjkmgbdahggaa.PL
