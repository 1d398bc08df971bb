/- The law side's blocks: halving, the first block of a span, the cover of spans, equality of sets. -/
import Derived.Test.YthkjkmgbdahggaaGreatSetsA
namespace Go.Proofs.YthkjkmgbdahggaaGreat.Sets
open Go.RowKit Go.Proofs.YthkjkmgbdahggaaGreat.PY Go.Proofs.YthkjkmgbdahggaaGreatW.PrintWords Go.Proofs.YthkjkmgbdahggaaGreatW.PrintLast Go.Proofs.YthkjkmgbdahggaaGreatW.PrintMore Go.Proofs.YthkjkmgbdahggaaGreat.SetMath
set_option linter.unusedVariables false
set_option linter.unusedSimpArgs false
theorem Ev.map {α β : Type} {g : Nat → Option α} {a : α} (f : α → β) (h : Ev g a) : Ev (fun k => (g k).bind fun t => some (f t)) (f a) := Ev.bind h (Ev.now _)
theorem Ev.pre {α β : Type} {g : Option α} {f : Nat → α → Option β} {a : α} {r : β} (h : g = some a) (k : Ev (fun n => f n a) r) : Ev (fun n => g.bind (f n)) r := by subst h; exact k
theorem Ev.iteT {α : Type} {c : Prop} [Decidable c] {f g : Nat → Option α} {r : α} (h : c) (k : Ev f r) : Ev (fun n => if c then f n else g n) r := by simp only [if_pos h]; exact k
theorem Ev.iteF {α : Type} {c : Prop} [Decidable c] {f g : Nat → Option α} {r : α} (h : ¬ c) (k : Ev g r) : Ev (fun n => if c then f n else g n) r := by simp only [if_neg h]; exact k
theorem two_l0 : ∀ (n : Nat) (x : Int) (c : Nat), x = 2 ^ c → c + n ≤ 32 → Ev (fun k => spec_l1Two.l0 k (n : Int) x) (x * 2 ^ n) := by
  intro n
  induction n with
  | zero => intro x c hx hc; refine Ev.succ ?_; simp only [spec_l1Two.l0]; refine Ev.iteF (by omega) ?_; simpa using Ev.now x
  | succ n ih =>
    intro x c hx hc
    have hp : (0 : Int) < 2 ^ c := Int.pow_pos (by decide)
    have hl : (2 : Int) ^ c ≤ 2 ^ 32 := Int.le_of_dvd (by decide) (pow_dvd (by omega))
    rw [show (2 : Int) ^ 32 = 4294967296 from by decide] at hl
    refine Ev.succ ?_
    simp only [spec_l1Two.l0]
    refine Ev.iteT (by omega) ?_
    rw [w64 (x := ((n + 1 : Nat) : Int) - 1) (by omega) (by omega), w64 (by omega) (by omega), show ((n + 1 : Nat) : Int) - 1 = (n : Int) from by omega]
    have := ih (x * 2) (c + 1) (by rw [hx, Int.pow_succ]) (by omega)
    rwa [Int.pow_succ, show (2 : Int) ^ n * 2 = 2 * 2 ^ n from Int.mul_comm _ _, ← Int.mul_assoc]
theorem sizeS_ev {n : Nat} (h : n ≤ 32) : Ev (fun k => spec_l1Size.f k (n : Int)) (sz n) := by
  unfold spec_l1Size.f spec_l1Two.f
  rw [w64 (by omega) (by omega), show (32 : Int) - n = ((32 - n : Nat) : Int) from by omega]
  have := two_l0 (32 - n) 1 0 rfl (by omega)
  rw [Int.one_mul] at this
  exact Ev.bind (f := fun _ t => some t) this (Ev.now _)
theorem tmod_iff {a : Int} {s : Int} (hs : 0 < s) : Int.tmod a s = 0 ↔ s ∣ a := ⟨Int.dvd_of_tmod_eq_zero, Int.tmod_eq_zero_of_dvd⟩
theorem firstS_l0 {a zt : Int} (h0 : 0 ≤ a) (h : a ≤ zt) (h2 : zt ≤ 4294967295) : ∀ (d m : Nat), m + d = firstB a zt → Ev (fun k => spec_l2First.l0 k a zt (m : Int)) (a, (firstB a zt : Int)) := by
  obtain ⟨hf1, hf2, hf3⟩ := first_spec h
  intro d
  induction d with
  | zero =>
    intro m hm
    obtain rfl : m = firstB a zt := by omega
    obtain ⟨q1, q2⟩ := fits_iff.1 hf2
    have hp := sz_pos (firstB a zt)
    have hl := sz_lt (b := firstB a zt)
    refine Ev.succ ?_
    simp only [spec_l2First.l0]
    refine Ev.bind (sizeS_ev hf1) (Ev.iteF (by omega) (Ev.iteT ((tmod_iff hp).2 q1) (Ev.bind (sizeS_ev hf1) (Ev.iteF ?_ (Ev.now _)))))
    rw [w64 (x := a + sz (firstB a zt)) (by omega) (by omega), w64 (by omega) (by omega)]
    omega
  | succ d ih =>
    intro m hm
    have hp := sz_pos m
    have hl := sz_lt (b := m)
    have hnf := hf3 m (by omega)
    have hih := ih (m + 1) (by omega)
    have e1 : wrap64 ((m : Int) + 1) = ((m + 1 : Nat) : Int) := by rw [w64 (by omega) (by omega)]; omega
    refine Ev.succ ?_
    simp only [spec_l2First.l0]
    refine Ev.bind (sizeS_ev (by omega)) (Ev.iteF (by omega) ?_)
    by_cases hd : sz m ∣ a
    · refine Ev.iteT ((tmod_iff hp).2 hd) (Ev.bind (sizeS_ev (by omega)) (Ev.iteT ?_ ?_))
      · rw [w64 (x := a + sz m) (by omega) (by omega), w64 (by omega) (by omega)]
        rcases Int.lt_or_le zt (a + sz m - 1) with h | h
        · exact h
        · rw [fits_iff.2 ⟨hd, h⟩] at hnf; cases hnf
      · rw [e1]; exact hih
    · refine Ev.iteF (fun h => hd ((tmod_iff hp).1 h)) ?_
      rw [e1]; exact hih
theorem firstS_ev {a zt : Int} (h0 : 0 ≤ a) (h : a ≤ zt) (h2 : zt ≤ 4294967295) : Ev (fun k => spec_l2First.f k a zt) (a, (firstB a zt : Int)) := by
  unfold spec_l2First.f
  exact firstS_l0 h0 h h2 (firstB a zt) 0 (by omega)
theorem coverS_l1 {l : List S73} {i : Nat} {zt : Int} {r : List S32} (hi : i < l.length) (hx : (rd_T73 l (i : Int)).f1 = zt) (h2 : zt ≤ 4294967295) (a : Int) :
    ∀ (acc : List S32), 0 ≤ a → acc.length + (SetMath.cover a zt).length < 8796093022208 → Ev (fun k => spec_l2Cover.l0 k l (acc ++ (SetMath.cover a zt).map ofB) (wrap64 ((i : Int) + 1))) r →
    Ev (fun k => spec_l2Cover.l1 k l acc (i : Int) a) r := by
  refine cover_ind (P := fun a => ∀ (acc : List S32), 0 ≤ a → acc.length + (SetMath.cover a zt).length < 8796093022208 → Ev (fun k => spec_l2Cover.l0 k l (acc ++ (SetMath.cover a zt).map ofB) (wrap64 ((i : Int) + 1))) r →
    Ev (fun k => spec_l2Cover.l1 k l acc (i : Int) a) r) zt ?_ ?_ a
  · intro a h acc h0 hl hr
    refine Ev.succ ?_
    simp only [spec_l2Cover.l1, hx]
    refine Ev.iteT (by omega) (Ev.iteT (by omega) (Ev.iteF h ?_))
    rw [cover_nil h] at hr
    simpa using hr
  · intro a h ih acc h0 hl hr
    rw [cover_cons h] at hl hr
    have hp := sz_pos (firstB a zt)
    have hz := sz_lt (b := firstB a zt)
    refine Ev.succ ?_
    simp only [spec_l2Cover.l1, hx]
    refine Ev.iteT (by omega) (Ev.iteT (by omega) (Ev.iteT h (Ev.bind (firstS_ev h0 h h2) (Ev.iteT (by simp at hl; omega) (Ev.bind (sizeS_ev (first_spec h).1) ?_)))))
    rw [w64 (by omega) (by omega)]
    refine ih _ (by omega) (by simp at hl ⊢; omega) ?_
    simpa [ofB] using hr
theorem coverS_l0 : ∀ (s p : List S73) (acc : List S32), (∀ x ∈ s, 0 ≤ x.f0 ∧ x.f1 ≤ 4294967295) → acc.length + s.length * 64 < 8796093022208 → (p ++ s).length < 8796093022208 →
    Ev (fun k => spec_l2Cover.l0 k (p ++ s) acc (p.length : Int)) (acc ++ (covers (s.map toP)).map ofB) := by
  intro s
  induction s with
  | nil => intro p acc _ _ _; refine Ev.succ ?_; simp only [spec_l2Cover.l0]; refine Ev.iteF (by simp) ?_; simpa [covers] using Ev.now acc
  | cons x s ih =>
    intro p acc hw hl hp
    obtain ⟨w0, w1⟩ := hw x (by simp)
    have hc := @cover_len x.f0 x.f1 w0 (by omega)
    have e1 : wrap64 ((p.length : Int) + 1) = ((p ++ [x]).length : Int) := by simp at hp; rw [w64 (by omega) (by omega)]; simp
    refine Ev.succ ?_
    simp only [spec_l2Cover.l0]
    refine Ev.iteT (by simp; omega) (Ev.iteT (by omega) ?_)
    rw [rdP]
    refine coverS_l1 (zt := x.f1) (by simp) (by rw [rdP]) w1 _ _ w0 (by simp at hl; omega) ?_
    rw [e1]
    have := ih (p ++ [x]) (acc ++ (SetMath.cover x.f0 x.f1).map ofB) (fun y hy => hw y (by simp [hy])) (by simp at hl ⊢; omega) (by simpa using hp)
    simpa [covers_cons, toP] using this
theorem coverS_ev {l : List S73} (hw : ∀ x ∈ l, 0 ≤ x.f0 ∧ x.f1 ≤ 4294967295) (hl : l.length * 64 < 8796093022208) : Ev (fun k => spec_l2Cover.f k l) ((covers (l.map toP)).map ofB) := by
  unfold spec_l2Cover.f
  simpa using coverS_l0 l [] [] hw (by simpa using hl) (by simp; omega)
instance decB : DecidableEq S32 := fun x y => if h : x.f0 = y.f0 ∧ x.f1 = y.f1 then isTrue (by cases x; cases y; simp_all) else isFalse (by rintro rfl; exact h ⟨rfl, rfl⟩)
theorem neB (x y : S32) : (!((x.f0) == (y.f0)) || (!((x.f1) == (y.f1)))) = true ↔ x ≠ y := by
  cases x; cases y
  simp only [ne_eq, S32.mk.injEq, Bool.or_eq_true, Bool.not_eq_true', beq_eq_false_iff_ne]
  omega
theorem ov_l0 : ∀ (s t p q : List S32), p.length = q.length → s.length = t.length → (p ++ s).length < 8796093022208 → Ev (fun k => laws_ovBlocks.l0 k (p ++ s) (q ++ t) (p.length : Int)) (decide (s = t)) := by
  intro s
  induction s with
  | nil => intro t p q hpq hst _; obtain rfl : t = [] := by simpa using hst.symm
           refine Ev.succ ?_; simp only [laws_ovBlocks.l0]; refine Ev.iteF (by simp) ?_; simpa using Ev.now true
  | cons x s ih =>
    intro t p q hpq hst hl
    cases t with
    | nil => cases hst
    | cons y t =>
    have e1 : wrap64 ((p.length : Int) + 1) = ((p ++ [x]).length : Int) := by simp at hl; rw [w64 (by omega) (by omega)]; simp
    refine Ev.succ ?_
    simp only [laws_ovBlocks.l0]
    refine Ev.iteT (by simp; omega) (Ev.iteT (by omega) (Ev.iteT (by simp; omega) ?_))
    rw [rdB p x s, show (p.length : Int) = q.length from by rw [hpq], rdB q y t]
    by_cases h : x = y
    · subst h
      refine Ev.iteF (fun h => absurd rfl ((neB x x).1 h)) ?_
      have := ih t (p ++ [x]) (q ++ [x]) (by simp [hpq]) (by simpa using hst) (by simpa using hl)
      rw [← hpq, e1]
      simpa using this
    · refine Ev.iteT ((neB x y).2 h) ?_
      simpa [h] using Ev.now false
theorem ov_ev {s t : List S32} (hl : s.length < 8796093022208) : Ev (fun k => laws_ovBlocks.f k s t) (decide (s = t)) := by
  unfold laws_ovBlocks.f
  by_cases h : s.length = t.length
  · refine Ev.iteT (by omega) ?_
    simpa using ov_l0 s t [] [] rfl h (by simpa using hl)
  · refine Ev.iteF (by omega) ?_
    have : ¬ s = t := fun e => h (by rw [e])
    simpa [this] using Ev.now false
theorem b51_l0 : ∀ (s t p q : List S32) (n : Int), p.length = q.length → s.length = t.length → n = ((p ++ s).length : Int) → (p ++ s).length < 8796093022208 → Ev (fun k => impl_Block_32.l0 k (p ++ s) (q ++ t) n (p.length : Int)) (decide (s = t)) := by
  intro s
  induction s with
  | nil => intro t p q n hpq hst hn _; obtain rfl : t = [] := by simpa using hst.symm
           refine Ev.succ ?_; simp only [impl_Block_32.l0]; refine Ev.iteF (by simp [hn]) ?_; simpa using Ev.now true
  | cons x s ih =>
    intro t p q n hpq hst hn hl
    cases t with
    | nil => cases hst
    | cons y t =>
    have e1 : wrap64 ((p.length : Int) + 1) = ((p ++ [x]).length : Int) := by simp at hl; rw [w64 (by omega) (by omega)]; simp
    refine Ev.succ ?_
    simp only [impl_Block_32.l0]
    refine Ev.iteT (by simp [hn]; omega) (Ev.iteT (by omega) (Ev.iteT (by simp; omega) (Ev.iteT (by simp; omega) ?_)))
    rw [rdB p x s, show (p.length : Int) = q.length from by rw [hpq], rdB q y t]
    by_cases h : x = y
    · subst h
      refine Ev.iteF (fun h => absurd rfl ((neB x x).1 h)) ?_
      have := ih t (p ++ [x]) (q ++ [x]) n (by simp [hpq]) (by simpa using hst) (by simpa using hn) (by simpa using hl)
      rw [← hpq, e1]
      simpa using this
    · refine Ev.iteT ((neB x y).2 h) ?_
      simpa [h] using Ev.now false
theorem b51_ev {s t : List S32} (hl : s.length < 8796093022208) : Ev (fun k => impl_Block_32.f k s t) (decide (s = t)) := by
  unfold impl_Block_32.f
  by_cases h : s.length = t.length
  · refine Ev.iteT (by omega) ?_
    simpa using b51_l0 s t [] [] _ rfl h (by simp) (by simpa using hl)
  · refine Ev.iteF (by omega) ?_
    have : ¬ s = t := fun e => h (by rw [e])
    simpa [this] using Ev.now false
end Go.Proofs.YthkjkmgbdahggaaGreat.Sets
