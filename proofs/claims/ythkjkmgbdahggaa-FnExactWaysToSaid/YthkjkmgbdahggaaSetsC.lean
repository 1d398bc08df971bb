/- The program's sets: blocks in order, spans, union, set, order of a set, its size, membership. -/
import Derived.Test.YthkjkmgbdahggaaSetsB
namespace Go.Proofs.Ythkjkmgbdahggaa.Sets
open Go.RowKit Go.Proofs.Ythkjkmgbdahggaa.PW Go.Proofs.YthkjkmgbdahggaaW.PrintWords Go.Proofs.YthkjkmgbdahggaaW.PrintLast Go.Proofs.YthkjkmgbdahggaaW.PrintMore Go.Proofs.Ythkjkmgbdahggaa.SetMath
set_option linter.unusedVariables false
set_option linter.unusedSimpArgs false

def okI (x : S40) : Prop := 0 ≤ x.f0 ∧ x.f0 ≤ 4294967295 ∧ 0 ≤ x.f1 ∧ x.f1 ≤ 32 ∧ sz x.f1.toNat ∣ x.f0
instance decI (x : S40) : Decidable (okI x) := by unfold okI; exact inferInstance
theorem okI_iff (x : S40) : okI x ↔ okB (toB x) ∧ 0 ≤ x.f1 := by
  unfold okI okB toB; simp only
  constructor
  · rintro ⟨a, b, c, d, e⟩; exact ⟨⟨a, b, by omega, e⟩, c⟩
  · rintro ⟨⟨a, b, c, e⟩, d⟩; exact ⟨a, b, d, by omega, e⟩
theorem of_toB {x : S40} (h : 0 ≤ x.f1) : ofB (toB x) = x := by cases x; simp only [ofB, toB] at h ⊢; congr 1; omega
theorem to_ofB (x : Int × Nat) : toB (ofB x) = x := by cases x; simp [ofB, toB]
theorem map_to_ofB (l : List (Int × Nat)) : (l.map ofB).map toB = l := by simp [Function.comp_def, to_ofB]
theorem map_of_toB {l : List S40} (h : ∀ x ∈ l, okI x) : (l.map toB).map ofB = l := by
  rw [List.map_map]
  refine (List.map_congr_left (g := id) fun x hx => ?_).trans (by simp)
  exact of_toB ((h x hx).2.2.1)
theorem okI_ofB {b : Int × Nat} (h : okB b) : okI (ofB b) := (okI_iff _).2 ⟨by rw [to_ofB]; exact h, by simp [ofB]⟩
theorem blockOk_eq (a b : Int) : impl_BlockOk.f a b = some (decide (okI ⟨a, b⟩)) := by
  unfold impl_BlockOk.f
  rw [isAddr_eq, in_eq]
  simp only [Option.bind_some, decide_eq_true_eq]
  by_cases h : 0 ≤ a ∧ a ≤ 4294967295
  · rw [if_pos h]
    by_cases h2 : 0 ≤ b ∧ b ≤ 32
    · obtain ⟨n, rfl⟩ : ∃ n : Nat, b = n := ⟨b.toNat, by omega⟩
      have hp := sz_pos n
      rw [if_pos h2, size_eq a (by omega)]
      simp only [Option.bind_some]
      rw [if_neg (by omega)]
      congr 1
      rw [Bool.eq_iff_iff]
      rw [beq_iff_eq, decide_eq_true_eq, tmod_iff hp]
      exact ⟨fun hd => ⟨h.1, h.2, h2.1, h2.2, hd⟩, fun hd => hd.2.2.2.2⟩
    · rw [if_neg h2]; congr 1; symm; rw [decide_eq_false_iff_not]; rintro ⟨_, _, q, r, _⟩; exact h2 ⟨q, r⟩
  · rw [if_neg h]; congr 1; symm; rw [decide_eq_false_iff_not]; rintro ⟨q, r, _⟩; exact h ⟨q, r⟩
/-- The first that is no block. -/
def badAt (p : Int) : List S40 → Int
  | [] => -1
  | x :: s => if okI x then badAt (p + 1) s else p
theorem badAt_nonneg : ∀ (s : List S40) (p : Int), 0 ≤ p → (badAt p s ≥ 0 ↔ ¬ ∀ x ∈ s, okI x)
  | [], p, _ => by simp [badAt]
  | x :: s, p, h => by
    unfold badAt
    split
    · rename_i hx; rw [badAt_nonneg s (p + 1) (by omega)]; simp [hx]
    · rename_i hx; simp [hx, h]
/-! ### spans -/
/-! ### union -/
theorem mx_eq (a b : Int) : mx a b = max a b := by unfold mx; split <;> omega
def okS (x : Int × Int) : Prop := -1000000000000000 ≤ x.2 ∧ x.2 ≤ 1000000000000000
theorem union_l0 : ∀ (s : List (Int × Int)) (p : List S68) (f : List S68) (t : Int × Int) (n : Int), n = ((p ++ s.map ofS).length : Int) → f.length + s.length < 8796093022000 → (p ++ s.map ofS).length < 8796093022208 → okS t → (∀ x ∈ s, okS x) →
    Ev (fun k => impl_union.l0 k (f ++ [ofS t]) (p ++ s.map ofS) n (p.length : Int)) (f ++ (mrg t s).map ofS) := by
  intro s
  induction s with
  | nil => intro p f t n hn _ _ _ _; refine Ev.succ ?_; simp only [impl_union.l0]; refine Ev.iteF (by simp [hn]) ?_; simpa [mrg] using Ev.now (f ++ [ofS t])
  | cons x s ih =>
    intro p f t n hn ha hl ht hx
    obtain ⟨t1, t2⟩ := ht
    obtain ⟨x1, x2⟩ := hx x (by simp)
    have e1 : wrap64 ((p.length : Int) + 1) = ((p ++ [ofS x]).length : Int) := by simp at hl; rw [w64 (by omega) (by omega)]; simp
    have e3 : wrap64 (((f ++ [ofS t]).length : Int) - 1) = (f.length : Int) := by simp at ha; rw [w64 (by simp <;> omega) (by simp <;> omega)]; simp
    refine Ev.succ ?_
    simp only [impl_union.l0, List.map_cons]
    refine Ev.iteT (by simp [hn]; omega) (Ev.iteT (by omega) (Ev.iteT (by simp <;> omega) (Ev.iteT (by simp <;> omega) ?_)))
    rw [e3]
    refine Ev.iteT (by omega) (Ev.iteT (by simp <;> omega) ?_)
    rw [rdS p (ofS x) (s.map ofS), show rd_T68 (f ++ [ofS t]) (f.length : Int) = ofS t from rdS f (ofS t) [], w64 (x := (ofS t).f1 + 1) (by simp only [ofS]; omega) (by simp only [ofS]; omega), e1]
    unfold mrg
    by_cases h : x.1 ≤ t.2 + 1
    · refine Ev.iteT h ?_
      rw [if_pos h]
      have e4 : (f ++ [ofS t]).set ((f.length : Int)).toNat (⟨(ofS t).f0, mx (ofS t).f1 (ofS x).f1⟩ : S68) = f ++ [ofS (t.1, max t.2 x.2)] := by simp [ofS, mx_eq]
      rw [e4]
      have := ih (p ++ [ofS x]) f (t.1, max t.2 x.2) n (by simpa using hn) (by simp at ha ⊢ <;> omega) (by simpa using hl) ⟨by simp only; omega, by simp only; omega⟩ (fun y hy => hx y (by simp [hy]))
      simpa using this
    · refine Ev.iteF h (Ev.iteT (by simp at ha ⊢ <;> omega) ?_)
      rw [if_neg h]
      have := ih (p ++ [ofS x]) (f ++ [ofS t]) x n (by simpa using hn) (by simp at ha ⊢ <;> omega) (by simpa using hl) ⟨x1, x2⟩ (fun y hy => hx y (by simp [hy]))
      simpa using this
theorem toS_ofS (x : Int × Int) : toS (ofS x) = x := rfl
theorem ofS_toS (x : S68) : ofS (toS x) = x := rfl
theorem union_ev {l : List (Int × Int)} (hl : l.length < 4398046511104) (hg : SetMath.Good l) (hx : ∀ x ∈ l, okS x) : Ev (fun k => impl_union.f k (l.map ofS)) ((canon l).map ofS) := by
  unfold impl_union.f impl_span_98.f
  obtain ⟨hp, ha⟩ := Srt.srt_spec l
  rw [if_pos (by simp; omega)]
  have e0 : (l.map ofS).map (fun x => (x.f0, x.f1)) = l := by rw [List.map_map]; exact (List.map_congr_left (g := id) fun x _ => rfl).trans (by simp)
  rw [e0, ← merge_eq hg hp ha]
  have hlen := hp.length_eq
  have hok : ∀ x ∈ Srt.srt l, okS x := fun x h => hx x (hp.mem_iff.1 h)
  generalize Srt.srt l = m at *
  simp only [Option.bind_some]
  show Ev (fun k => impl_union.l0 k [] (m.map ofS) ((m.map ofS).length : Int) 0) _
  cases m with
  | nil => refine Ev.succ ?_; simp only [impl_union.l0]; exact Ev.iteF (by simp) (by simpa [merge] using Ev.now ([] : List S68))
  | cons t r =>
    refine Ev.succ ?_
    simp only [impl_union.l0]
    refine Ev.iteT (by simp) (Ev.iteT (by omega) (Ev.iteT (by simp) (Ev.iteF (by simp) (Ev.iteT (by simp) ?_))))
    have e1 : wrap64 ((0 : Int) + 1) = (([ofS t] : List S68).length : Int) := by rw [w64] <;> simp
    have e2 : rd_T68 ((t :: r).map ofS) 0 = ofS t := rdS [] (ofS t) (r.map ofS)
    rw [e1, e2]
    have := union_l0 r [ofS t] [] t (((t :: r).map ofS).length : Int) (by simp) (by simp at hlen ⊢; omega) (by simp at hlen ⊢; omega) (hok t (by simp)) (fun y hy => hok y (by simp [hy]))
    simpa [merge, ofS] using this
/-! ### set -/
theorem set_l0 : ∀ (s : List (Int × Int)) (p : List S68) (acc : List S40) (n : Int), n = ((p ++ s.map ofS).length : Int) → acc.length + s.length * 64 < 8796093022208 → (p ++ s.map ofS).length < 8796093022208 → Within s →
    Ev (fun k => impl_set.l0 k acc (p ++ s.map ofS) n (p.length : Int)) (acc ++ (covers s).map ofB) := by
  intro s
  induction s with
  | nil => intro p acc n hn _ _ _; refine Ev.succ ?_; simp only [impl_set.l0]; refine Ev.iteF (by simp [hn]) ?_; simpa [covers] using Ev.now acc
  | cons x s ih =>
    intro p acc n hn ha hl hw
    have e1 : wrap64 ((p.length : Int) + 1) = ((p ++ [ofS x]).length : Int) := by simp at hl; rw [w64 (by omega) (by omega)]; simp
    obtain ⟨w0, w1⟩ := hw x (by simp)
    have hc := @cover_len x.1 x.2 w0 (by omega)
    refine Ev.succ ?_
    simp only [impl_set.l0, List.map_cons]
    refine Ev.iteT (by simp [hn]; omega) (Ev.iteT (by omega) (Ev.iteT (by simp; omega) ?_))
    rw [rdS p (ofS x) (s.map ofS)]
    refine Ev.bind (blocks_ev (a := (ofS x).f0) (zt := (ofS x).f1) w0 w1) (Ev.iteT (by simp only [ofS]; simp at ha ⊢; omega) ?_)
    rw [e1]
    have := ih (p ++ [ofS x]) (acc ++ (SetMath.cover x.1 x.2).map ofB) n (by simpa using hn) (by simp at ha ⊢ <;> omega) (by simpa using hl) (fun y hy => hw y (by simp [hy]))
    rw [covers_cons]
    simpa [ofS] using this
theorem mrg_len : ∀ (r : List (Int × Int)) (t : Int × Int), (mrg t r).length ≤ r.length + 1
  | [], t => by simp [mrg]
  | s :: r, t => by
    unfold mrg; split
    · have := mrg_len r (t.1, max t.2 s.2); simp; omega
    · have := mrg_len r s; simp; omega
theorem canon_len (l : List (Int × Int)) : (canon l).length ≤ l.length := by
  have h := (isort_perm l).length_eq
  unfold canon
  cases e : isort l with
  | nil => simp [merge]
  | cons t r => have := mrg_len r t; rw [e] at h; simp [merge] at h ⊢; omega
theorem set_ev {l : List (Int × Int)} (hl : l.length < 68719476736) (hg : SetMath.Good l) (hw : Within l) : Ev (fun k => impl_set.f k (l.map ofS)) ((covers (canon l)).map ofB) := by
  unfold impl_set.f
  have hc := canon_len l
  have hok : ∀ x ∈ l, okS x := fun x hx => by have := hw x hx; have := hg x hx; constructor <;> omega
  refine Ev.bind (union_ev (by omega) hg hok) ?_
  simpa using set_l0 (canon l) [] [] _ (by simp) (by simp; omega) (by simp; omega) (canon_within hg hw)

/-! ### order of a set -/
def spansOf (l : List S40) : List (Int × Int) := (l.map toB).map spanOf
def SetOk (l : List S40) : Prop := l.length ≤ 64 ∧ (∀ x ∈ l, okI x) ∧ (covers (canon (spansOf l))).map ofB = l
instance decSet (l : List S40) : Decidable (SetOk l) := by unfold SetOk; exact inferInstance
theorem spansOf_good (l : List S40) : SetMath.Good (spansOf l) := spanOf_good _
theorem spansOf_within {l : List S40} (h : ∀ x ∈ l, okI x) : Within (spansOf l) := by
  refine spans_within fun b hb => ?_
  obtain ⟨x, hx, rfl⟩ := List.mem_map.1 hb
  exact ((okI_iff x).1 (h x hx)).1
theorem flat_len {l : List (Int × Int)} (h : Within l) : (covers l).length ≤ l.length * 64 := by
  induction l with
  | nil => simp [covers]
  | cons s l ih =>
    rw [covers_cons, List.length_append]
    obtain ⟨w0, w1⟩ := h s (by simp)
    have := @cover_len s.1 s.2 w0 (by omega)
    have := ih fun y hy => h y (by simp [hy])
    simp; omega
/-! ### size, membership -/
theorem block_size {x : S40} (h : okI x) : impl_Block_size.f x.f0 x.f1 = some (sz x.f1.toNat) := by
  obtain ⟨q1, q2, q3, q4, q5⟩ := h
  have e2 : x.f1 = ((x.f1.toNat : Nat) : Int) := by omega
  conv => lhs; rw [e2]
  exact size_eq _ (by omega)
theorem block_last {x : S40} (h : okI x) : impl_Block_last.f x.f0 x.f1 = some (x.f0 + sz x.f1.toNat - 1) := by
  obtain ⟨q1, q2, q3, q4, q5⟩ := h
  have e2 : x.f1 = ((x.f1.toNat : Nat) : Int) := by omega
  conv => lhs; rw [e2]
  exact last_eq (by omega) (by omega) (by omega)
theorem has_eq {x : S40} (h : okI x) (a : Int) : impl_Block_has.f x.f0 x.f1 a = some (decide (x.f0 ≤ a ∧ a ≤ x.f0 + sz x.f1.toNat - 1)) := by
  unfold impl_Block_has.f
  rw [block_last h]
  simp only [Option.bind_some]
  rw [in_eq]; rfl
theorem memS_spans (l : List S40) (a : Int) : memS (spansOf l) a ↔ ∃ x ∈ l, x.f0 ≤ a ∧ a ≤ x.f0 + sz x.f1.toNat - 1 := by
  constructor
  · rintro ⟨s, hs, h⟩
    obtain ⟨b, hb, rfl⟩ := List.mem_map.1 hs
    obtain ⟨x, hx, rfl⟩ := List.mem_map.1 hb
    exact ⟨x, hx, h⟩
  · rintro ⟨x, hx, h⟩
    exact ⟨spanOf (toB x), List.mem_map.2 ⟨toB x, List.mem_map.2 ⟨x, hx, rfl⟩, rfl⟩, h⟩
end Go.Proofs.Ythkjkmgbdahggaa.Sets
