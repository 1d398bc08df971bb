/- What the printed functions of blocks and sets answer, in plain words: sizes, spans, covers, unions, sets; on the condition that blocks and addresses are in range. -/
import Derived.Test.YthkjkmgbdahggaaGreatSetMath
import Derived.Test.YthkjkmgbdahggaaGreatPYx18
import Derived.Test.YthkjkmgbdahggaaGreatPYx13
namespace Go.Proofs.YthkjkmgbdahggaaGreat.Sets
open Go.RowKit Go.Proofs.YthkjkmgbdahggaaGreat.PY Go.Proofs.YthkjkmgbdahggaaGreatW.PrintWords Go.Proofs.YthkjkmgbdahggaaGreatW.PrintLast Go.Proofs.YthkjkmgbdahggaaGreatW.PrintMore Go.Proofs.YthkjkmgbdahggaaGreat.SetMath
set_option linter.unusedVariables false
set_option linter.unusedSimpArgs false
theorem Ev.succ {α : Type} {g : Nat → Option α} {r : α} (h : Ev (fun k => g (k + 1)) r) : Ev g r := Ev.step (fun _ => rfl) h
theorem w64 {x : Int} (h0 : -9223372036854775808 ≤ x) (h1 : x < 9223372036854775808) : wrap64 x = x := by unfold wrap64; omega
def toB (x : S32) : Int × Nat := (x.f0, x.f1.toNat)
def ofB (b : Int × Nat) : S32 := ⟨b.1, b.2⟩
def ofS (x : Int × Int) : S50 := ⟨x.1, x.2⟩
def toP (x : S73) : Int × Int := (x.f0, x.f1)
theorem sz_lt {b : Nat} : sz b ≤ 4294967296 := by have := sz_le (c := 0) (b := b) (by omega); rw [sz_0] at this; exact this
theorem in_eq (a b c : Int) : impl_in.f a b c = some (decide (b ≤ a ∧ a ≤ c)) := by
  unfold impl_in.f; split
  · rename_i h; have : b ≤ a := h; simp [this]
  · rename_i h; have : ¬ b ≤ a := h; simp [this]
theorem isAddr_eq (a : Int) : impl_isAddr.f a = some (decide (0 ≤ a ∧ a ≤ 4294967295)) := by unfold impl_isAddr.f; rw [in_eq]; rfl
theorem l1In_eq (a b c : Int) : spec_l1In.f a b c = some (decide (b ≤ a ∧ a ≤ c)) := by
  unfold spec_l1In.f; split
  · rename_i h; have : b ≤ a := h; simp [this]
  · rename_i h; have : ¬ b ≤ a := h; simp [this]
theorem l1Addr_eq (a : Int) : spec_l1Addr.f a = some (decide (0 ≤ a ∧ a ≤ 4294967295)) := by unfold spec_l1Addr.f; rw [l1In_eq]; rfl
theorem shl_one {n : Nat} (h : n ≤ 32) : shl .i64 1 ((32 : Int) - n) = sz n := by
  unfold shl sz
  rw [i64_w, show min ((32 : Int) - n).toNat (IntKind.bits .i64) = 32 - n from by simp [IntKind.bits]; omega, Int.one_mul]
  have h1 := sz_pos n
  have h2 := sz_lt (b := n)
  unfold sz at h1 h2
  exact w64 (by omega) (by omega)
theorem size_eq (a : Int) {n : Nat} (h : n ≤ 32) : impl_Block_size.f a n = some (sz n) := by
  unfold impl_Block_size.f
  rw [w64 (by omega) (by omega), if_pos (by omega), shl_one h]
theorem last_eq {a : Int} {n : Nat} (h : n ≤ 32) (h0 : -1000000000000000 ≤ a) (h1 : a ≤ 1000000000000000) : impl_Block_last.f a n = some (a + sz n - 1) := by
  unfold impl_Block_last.f
  rw [size_eq a h]
  have := sz_pos n
  have := sz_lt (b := n)
  simp only [Option.bind_some]
  rw [w64 (x := a + sz n) (by omega) (by omega), w64 (by omega) (by omega)]
theorem div_le {a s : Int} (hs : 0 < s) (ha : 0 ≤ a) : 0 ≤ a / s * s ∧ a / s * s ≤ a := by
  have h1 := Int.ediv_nonneg ha (by omega : 0 ≤ s)
  have h2 := Int.ediv_mul_le a (by omega : s ≠ 0)
  exact ⟨Int.mul_nonneg h1 (by omega), h2⟩
theorem around_eq {a : Int} {n : Nat} (h : n ≤ 32) (h0 : 0 ≤ a) (h1 : a ≤ 4294967296) : impl_around.f a n = some (a / sz n * sz n, (n : Int)) := by
  unfold impl_around.f
  rw [w64 (x := 32 - (n : Int)) (by omega) (by omega), if_pos (by omega)]
  have hb : min ((32 : Int) - n).toNat (IntKind.bits .i64) = 32 - n := by simp [IntKind.bits]; omega
  unfold shr shl
  rw [hb, i64_w]
  have := div_le (sz_pos n) h0
  unfold sz at this
  rw [w64 (by omega) (by omega)]
  rfl
theorem around_self {a : Int} {n : Nat} (h : n ≤ 32) (h0 : 0 ≤ a) (h1 : a ≤ 4294967296) (hd : sz n ∣ a) : impl_around.f a n = some (a, (n : Int)) := by
  rw [around_eq h h0 h1, Int.ediv_mul_cancel hd]
theorem around_iff {a : Int} {n : Nat} (h0 : 0 ≤ a) : a / sz n * sz n = a ↔ sz n ∣ a := ⟨fun h => ⟨a / sz n, by rw [Int.mul_comm]; exact h.symm⟩, fun h => Int.ediv_mul_cancel h⟩
theorem rdB (l : List S32) (x : S32) (r : List S32) : rd_T32 (l ++ x :: r) (l.length : Int) = x := by simp [rd_T32]
theorem rdB_last (l : List S32) (x : S32) : rd_T32 (l ++ [x]) (l.length : Int) = x := rdB l x []
theorem rdS (l : List S50) (x : S50) (r : List S50) : rd_T50 (l ++ x :: r) (l.length : Int) = x := by simp [rd_T50]
theorem rdP (l : List S73) (x : S73) (r : List S73) : rd_T73 (l ++ x :: r) (l.length : Int) = x := by simp [rd_T73]
theorem fits_up {a zt : Int} {b : Nat} (hb : b < 32) (h : fits a zt b = true) : fits a zt (b + 1) = true := by
  rw [fits_iff] at *
  have := sz_le (c := b) (b := b + 1) (by omega)
  exact ⟨Int.dvd_trans (sz_dvd (by omega)) h.1, by omega⟩
theorem blocks_app {acc : List S32} {a zt x y : Int} {m : Nat} {r : List S32} (hm : m ≤ 32) (h0 : 0 ≤ a) (h1 : a ≤ 4294967295) (hd : sz m ∣ a) (hl : acc.length < 8796093022208)
    (h : Ev (fun k => impl_span_blocks.l0 k (acc ++ [⟨a, m⟩]) (a + sz m) x y) r) :
    Ev (fun k => (impl_around.f a (m : Int)).bind fun bt => (if acc.length < 8796093022208 then ((some (acc ++ [(⟨bt.1, bt.2⟩ : S32)] : List (S32))).bind fun y163 => (if 0 ≤ (wrap64 ((y163.length : Int) - 1)) then (if (wrap64 ((y163.length : Int) - 1)) < (y163.length : Int) then ((impl_Block_last.f ((rd_T32 y163 (wrap64 ((y163.length : Int) - 1))).f0) ((rd_T32 y163 (wrap64 ((y163.length : Int) - 1))).f1)).bind fun t167 => (impl_span_blocks.l0 k y163 (wrap64 (t167 + 1)) x y)) else (none)) else (none))) else (none))) r := by
  have hz := sz_pos m
  have hz2 := sz_lt (b := m)
  have e1 : wrap64 (((acc ++ [(⟨a, m⟩ : S32)]).length : Int) - 1) = (acc.length : Int) := by rw [w64] <;> simp <;> omega
  refine Ev.congr (f := fun k => impl_span_blocks.l0 k (acc ++ [⟨a, m⟩]) (a + sz m) x y) (fun k => ?_) h
  rw [around_self hm h0 (by omega) hd]
  simp only [Option.bind_some]
  rw [if_pos hl, e1, if_pos (by omega), if_pos (by simp; omega), rdB_last, last_eq (a := a) hm (by omega) (by omega)]
  simp only [Option.bind_some]
  rw [w64 (by omega) (by omega)]
  congr 1
  omega
theorem blocks_l1 {acc : List S32} {a zt x : Int} {r : List S32} (h0 : 0 ≤ a) (h1 : a ≤ zt) (h2 : zt ≤ 4294967295) (hl : acc.length < 8796093022208)
    (h : Ev (fun k => impl_span_blocks.l0 k (acc ++ [⟨a, firstB a zt⟩]) (a + sz (firstB a zt)) x zt) r) :
    ∀ (d m : Nat), m = firstB a zt + d → m ≤ 32 → Ev (fun k => impl_span_blocks.l1 k acc a (m : Int) x zt) r := by
  obtain ⟨hf1, hf2, hf3⟩ := first_spec h1
  intro d
  induction d with
  | zero =>
    intro m hm hm2
    obtain rfl : m = firstB a zt := by omega
    refine Ev.succ ?_
    simp only [impl_span_blocks.l1]
    by_cases hp : (firstB a zt : Int) > 0
    · obtain ⟨c, hc⟩ : ∃ c, firstB a zt = c + 1 := ⟨firstB a zt - 1, by omega⟩
      have hnf := hf3 c (by omega)
      have e1 : wrap64 ((firstB a zt : Int) - 1) = (c : Int) := by rw [w64 (by omega) (by omega)]; omega
      simp only [hp, if_true, e1, around_eq (n := c) (by omega) h0 (by omega), Option.bind_some]
      by_cases hd : a / sz c * sz c = a
      · have hcz := sz_pos c
        have hcl := sz_lt (b := c)
        have hdd := (around_iff h0).1 hd
        have hgt : ¬ (a + sz c - 1 ≤ zt) := fun hle => by rw [fits_iff.2 ⟨hdd, hle⟩] at hnf; cases hnf
        simp only [hd, if_true, last_eq (n := c) (by omega) (by omega : -1000000000000000 ≤ a) (by omega), Option.bind_some, hgt, if_false]
        exact blocks_app (zt := zt) hf1 h0 (by omega) (fits_iff.1 hf2).1 hl h
      · simp only [hd, if_false]
        exact blocks_app (zt := zt) hf1 h0 (by omega) (fits_iff.1 hf2).1 hl h
    · simp only [hp, if_false]
      exact blocks_app (zt := zt) hf1 h0 (by omega) (fits_iff.1 hf2).1 hl h
  | succ d ih =>
    intro m hm hm2
    have hfit : ∀ e, fits a zt (firstB a zt + e) = true ∨ 32 < firstB a zt + e := by
      intro e
      induction e with
      | zero => exact .inl hf2
      | succ e ihe =>
        rcases ihe with ihe | ihe
        · by_cases h32 : firstB a zt + e < 32
          · exact .inl (fits_up h32 ihe)
          · exact .inr (by omega)
        · exact .inr (by omega)
    have hfd : fits a zt (firstB a zt + d) = true := by rcases hfit d with h | h; exact h; omega
    have hfd' := fits_iff.1 hfd
    have e1 : wrap64 ((m : Int) - 1) = ((firstB a zt + d : Nat) : Int) := by rw [w64 (by omega) (by omega)]; omega
    have hcl := sz_lt (b := firstB a zt + d)
    refine Ev.succ ?_
    simp only [impl_span_blocks.l1]
    simp only [show (m : Int) > 0 from by omega, if_true, e1, around_self (n := firstB a zt + d) (by omega) h0 (by omega) hfd'.1, Option.bind_some, last_eq (n := firstB a zt + d) (by omega) (by omega : -1000000000000000 ≤ a) (by omega), hfd'.2]
    exact ih _ rfl (by omega)
theorem blocks_l0 {zt x : Int} (h2 : zt ≤ 4294967295) (a : Int) : ∀ (acc : List S32), 0 ≤ a → acc.length + (SetMath.cover a zt).length < 8796093022208 → Ev (fun k => impl_span_blocks.l0 k acc a x zt) (acc ++ (SetMath.cover a zt).map ofB) := by
  refine cover_ind (P := fun a => ∀ (acc : List S32), 0 ≤ a → acc.length + (SetMath.cover a zt).length < 8796093022208 → Ev (fun k => impl_span_blocks.l0 k acc a x zt) (acc ++ (SetMath.cover a zt).map ofB)) zt ?_ ?_ a
  · intro a h acc h0 hl
    refine Ev.succ ?_
    simp only [impl_span_blocks.l0, h, if_false]
    rw [cover_nil h]
    simpa using Ev.now acc
  · intro a h ih acc h0 hl
    rw [cover_cons h] at hl ⊢
    have hp := sz_pos (firstB a zt)
    have ih := ih (acc ++ [⟨a, firstB a zt⟩]) (by omega) (by simp at hl ⊢; omega)
    refine Ev.succ ?_
    simp only [impl_span_blocks.l0, h, if_true]
    refine blocks_l1 h0 h h2 (by simp at hl; omega) ?_ (32 - firstB a zt) 32 (by have := (first_spec h).1; omega) (by omega)
    simpa [ofB] using ih
theorem blocks_ev {a zt : Int} (h0 : 0 ≤ a) (h2 : zt ≤ 4294967295) : Ev (fun k => impl_span_blocks.f k a zt) ((SetMath.cover a zt).map ofB) := by
  unfold impl_span_blocks.f
  have := @cover_len a zt h0 (by omega)
  simpa using blocks_l0 (x := a) h2 a [] h0 (by simp; omega)
end Go.Proofs.YthkjkmgbdahggaaGreat.Sets
