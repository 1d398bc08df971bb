/- The program's sets: blocks in order, spans, union, set, order of a set, its size, membership. -/
import Derived.Test.YthkjkmgbdahggaaGreatSetsB
namespace Go.Proofs.YthkjkmgbdahggaaGreat.Sets
open Go.RowKit Go.Proofs.YthkjkmgbdahggaaGreat.PY Go.Proofs.YthkjkmgbdahggaaGreatW.PrintWords Go.Proofs.YthkjkmgbdahggaaGreatW.PrintLast Go.Proofs.YthkjkmgbdahggaaGreatW.PrintMore Go.Proofs.YthkjkmgbdahggaaGreat.SetMath
set_option linter.unusedVariables false
set_option linter.unusedSimpArgs false
def okI (x : S32) : Prop := 0 ≤ x.f0 ∧ x.f0 ≤ 4294967295 ∧ 0 ≤ x.f1 ∧ x.f1 ≤ 32 ∧ sz x.f1.toNat ∣ x.f0
instance decI (x : S32) : Decidable (okI x) := by unfold okI; exact inferInstance
theorem okI_iff (x : S32) : okI x ↔ okB (toB x) ∧ 0 ≤ x.f1 := by
  unfold okI okB toB; simp only
  constructor
  · rintro ⟨a, b, c, d, e⟩; exact ⟨⟨a, b, by omega, e⟩, c⟩
  · rintro ⟨⟨a, b, c, e⟩, d⟩; exact ⟨a, b, d, by omega, e⟩
theorem to_ofB (x : Int × Nat) : toB (ofB x) = x := by cases x; simp [ofB, toB]
theorem map_to_ofB (l : List (Int × Nat)) : (l.map ofB).map toB = l := by simp [Function.comp_def, to_ofB]
theorem okI_ofB {b : Int × Nat} (h : okB b) : okI (ofB b) := (okI_iff _).2 ⟨by rw [to_ofB]; exact h, by simp [ofB]⟩
theorem blockOk_eq (a b : Int) : impl_BlockOk.f a b = some (decide (okI ⟨a, b⟩)) := by
  unfold impl_BlockOk.f
  rw [isAddr_eq, in_eq]
  simp only [Option.bind_some, decide_eq_true_eq]
  by_cases h : 0 ≤ a ∧ a ≤ 4294967295
  · rw [if_pos h]
    by_cases h2 : 0 ≤ b ∧ b ≤ 32
    · obtain ⟨n, rfl⟩ : ∃ n : Nat, b = n := ⟨b.toNat, by omega⟩
      have hp := sz_pos n
      rw [if_pos h2, size_eq a (by omega)]
      simp only [Option.bind_some]
      rw [if_neg (by omega)]
      congr 1
      rw [Bool.eq_iff_iff]
      rw [beq_iff_eq, decide_eq_true_eq, tmod_iff hp]
      exact ⟨fun hd => ⟨h.1, h.2, h2.1, h2.2, hd⟩, fun hd => hd.2.2.2.2⟩
    · rw [if_neg h2]; congr 1; symm; rw [decide_eq_false_iff_not]; rintro ⟨_, _, q, r, _⟩; exact h2 ⟨q, r⟩
  · rw [if_neg h]; congr 1; symm; rw [decide_eq_false_iff_not]; rintro ⟨q, r, _⟩; exact h ⟨q, r⟩
theorem notOk_eq (a b : Int) : impl_blocksOk_1.f a b = some (!decide (okI ⟨a, b⟩)) := by unfold impl_blocksOk_1.f; rw [blockOk_eq]; rfl
def badAt (p : Int) : List S32 → Int
  | [] => -1
  | x :: s => if okI x then badAt (p + 1) s else p
theorem badAt_nonneg : ∀ (s : List S32) (p : Int), 0 ≤ p → (badAt p s ≥ 0 ↔ ¬ ∀ x ∈ s, okI x)
  | [], p, _ => by simp [badAt]
  | x :: s, p, h => by
    unfold badAt
    split
    · rename_i hx; rw [badAt_nonneg s (p + 1) (by omega)]; simp [hx]
    · rename_i hx; simp [hx, h]
theorem b92_l0 : ∀ (s p : List S32) (n : Int), n = ((p ++ s).length : Int) → (p ++ s).length < 8796093022208 → Ev (fun k => impl_Block_55_54.l0 k (p ++ s) n (p.length : Int)) (badAt p.length s) := by
  intro s
  induction s with
  | nil => intro p n hn _; refine Ev.succ ?_; simp only [impl_Block_55_54.l0]; exact Ev.iteF (by simp [hn]) (Ev.now _)
  | cons x s ih =>
    intro p n hn hl
    have e1 : wrap64 ((p.length : Int) + 1) = ((p ++ [x]).length : Int) := by simp at hl; rw [w64 (by omega) (by omega)]; simp
    refine Ev.succ ?_
    simp only [impl_Block_55_54.l0]
    refine Ev.iteT (by simp [hn]; omega) (Ev.iteT (by omega) (Ev.iteT (by simp; omega) ?_))
    rw [rdB p x s, notOk_eq]
    simp only [Option.bind_some, badAt]
    by_cases h : okI x
    · refine Ev.iteF (by simp [show okI ⟨x.f0, x.f1⟩ from h]) ?_
      rw [if_pos h, e1]
      have := ih (p ++ [x]) n (by simpa using hn) (by simpa using hl)
      simpa using this
    · refine Ev.iteT (by simp [show ¬ okI ⟨x.f0, x.f1⟩ from h]) ?_
      rw [if_neg h]; exact Ev.now _
theorem blocksOk_ev {l : List S32} : Ev (fun k => impl_blocksOk.f k l) (decide (l.length ≤ 64 ∧ ∀ x ∈ l, okI x)) := by
  unfold impl_blocksOk.f impl_Block_34_54.f impl_Block_55_54.f
  by_cases h : l.length ≤ 64
  · refine Ev.iteT (by omega) ?_
    have := b92_l0 l [] l.length (by simp) (by simp; omega)
    have h2 := Ev.map (fun t => decide (t ≥ 0)) (by simpa using this : Ev (fun k => impl_Block_55_54.l0 k l (l.length : Int) 0) (badAt 0 l))
    have h3 := Ev.map (fun t => !t) h2
    have e : (!decide (badAt 0 l ≥ 0)) = decide (l.length ≤ 64 ∧ ∀ x ∈ l, okI x) := by
      have := badAt_nonneg l 0 (by omega)
      by_cases hh : ∀ x ∈ l, okI x
      · have : ¬ badAt 0 l ≥ 0 := fun h => (this.1 h) hh
        rw [decide_eq_false this, decide_eq_true ⟨h, hh⟩]; rfl
      · have : badAt 0 l ≥ 0 := this.2 hh
        rw [decide_eq_true this, decide_eq_false (fun h => hh h.2)]; rfl
    rw [← e]; exact h3
  · refine Ev.iteF (by omega) ?_
    rw [decide_eq_false (fun q => h q.1)]; exact Ev.now _
theorem spans_l0 : ∀ (s p : List S32) (acc : List S50) (n : Int), n = ((p ++ s).length : Int) → acc.length + s.length < 8796093022208 → (p ++ s).length < 8796093022208 → (∀ x ∈ s, okI x) →
    Ev (fun k => impl_spans.l0 k acc (p ++ s) n (p.length : Int)) (acc ++ ((s.map toB).map spanOf).map ofS) := by
  intro s
  induction s with
  | nil => intro p acc n hn _ _ _; refine Ev.succ ?_; simp only [impl_spans.l0]; refine Ev.iteF (by simp [hn]) ?_; simpa using Ev.now acc
  | cons x s ih =>
    intro p acc n hn ha hl hx
    have e1 : wrap64 ((p.length : Int) + 1) = ((p ++ [x]).length : Int) := by simp at hl; rw [w64 (by omega) (by omega)]; simp
    obtain ⟨q1, q2, q3, q4, q5⟩ := hx x (by simp)
    have e2 : x.f1 = ((x.f1.toNat : Nat) : Int) := by omega
    have hlast : impl_Block_last.f x.f0 x.f1 = some (x.f0 + sz x.f1.toNat - 1) := by
      conv => lhs; rw [e2]
      exact last_eq (by omega) (by omega) (by omega)
    refine Ev.succ ?_
    simp only [impl_spans.l0]
    refine Ev.iteT (by simp [hn]; omega) (Ev.iteT (by omega) (Ev.iteT (by simp; omega) ?_))
    rw [rdB p x s, hlast]
    simp only [Option.bind_some]
    refine Ev.iteT (by simp at ha; omega) ?_
    rw [e1]
    have := ih (p ++ [x]) (acc ++ [⟨x.f0, x.f0 + sz x.f1.toNat - 1⟩]) n (by simpa using hn) (by simp at ha ⊢ <;> omega) (by simpa using hl) (fun y hy => hx y (by simp [hy]))
    simpa [ofS, spanOf, toB] using this
theorem spans_ev {l : List S32} (hl : l.length < 4398046511104) (hx : ∀ x ∈ l, okI x) : Ev (fun k => impl_spans.f k l) (((l.map toB).map spanOf).map ofS) := by
  unfold impl_spans.f
  simpa using spans_l0 l [] [] l.length (by simp) (by simp; omega) (by simp; omega) hx
theorem mx_eq (a b : Int) : mx a b = max a b := by unfold mx; split <;> omega
def okS (x : Int × Int) : Prop := -1000000000000000 ≤ x.2 ∧ x.2 ≤ 1000000000000000
theorem union_l0 : ∀ (s : List (Int × Int)) (p : List S50) (f : List S50) (t : Int × Int) (n : Int), n = ((p ++ s.map ofS).length : Int) → f.length + s.length < 8796093022000 → (p ++ s.map ofS).length < 8796093022208 → okS t → (∀ x ∈ s, okS x) →
    Ev (fun k => impl_union.l0 k (f ++ [ofS t]) (p ++ s.map ofS) n (p.length : Int)) (f ++ (mrg t s).map ofS) := by
  intro s
  induction s with
  | nil => intro p f t n hn _ _ _ _; refine Ev.succ ?_; simp only [impl_union.l0]; refine Ev.iteF (by simp [hn]) ?_; simpa [mrg] using Ev.now (f ++ [ofS t])
  | cons x s ih =>
    intro p f t n hn ha hl ht hx
    obtain ⟨t1, t2⟩ := ht
    obtain ⟨x1, x2⟩ := hx x (by simp)
    have e1 : wrap64 ((p.length : Int) + 1) = ((p ++ [ofS x]).length : Int) := by simp at hl; rw [w64 (by omega) (by omega)]; simp
    have e3 : wrap64 (((f ++ [ofS t]).length : Int) - 1) = (f.length : Int) := by simp at ha; rw [w64 (by simp <;> omega) (by simp <;> omega)]; simp
    refine Ev.succ ?_
    simp only [impl_union.l0, List.map_cons]
    refine Ev.iteT (by simp [hn]; omega) (Ev.iteT (by omega) (Ev.iteT (by simp <;> omega) (Ev.iteT (by simp <;> omega) ?_)))
    rw [e3]
    refine Ev.iteT (by omega) (Ev.iteT (by simp <;> omega) ?_)
    rw [rdS p (ofS x) (s.map ofS), show rd_T50 (f ++ [ofS t]) (f.length : Int) = ofS t from rdS f (ofS t) [], w64 (x := (ofS t).f1 + 1) (by simp only [ofS]; omega) (by simp only [ofS]; omega), e1]
    unfold mrg
    by_cases h : x.1 ≤ t.2 + 1
    · refine Ev.iteT h ?_
      rw [if_pos h]
      have e4 : (f ++ [ofS t]).set ((f.length : Int)).toNat (⟨(ofS t).f0, mx (ofS t).f1 (ofS x).f1⟩ : S50) = f ++ [ofS (t.1, max t.2 x.2)] := by simp [ofS, mx_eq]
      rw [e4]
      have := ih (p ++ [ofS x]) f (t.1, max t.2 x.2) n (by simpa using hn) (by simp at ha ⊢ <;> omega) (by simpa using hl) ⟨by simp only; omega, by simp only; omega⟩ (fun y hy => hx y (by simp [hy]))
      simpa using this
    · refine Ev.iteF h (Ev.iteT (by simp at ha ⊢ <;> omega) ?_)
      rw [if_neg h]
      have := ih (p ++ [ofS x]) (f ++ [ofS t]) x n (by simpa using hn) (by simp at ha ⊢ <;> omega) (by simpa using hl) ⟨x1, x2⟩ (fun y hy => hx y (by simp [hy]))
      simpa using this
theorem union_ev {l : List (Int × Int)} (hl : l.length < 4398046511104) (hg : SetMath.Good l) (hx : ∀ x ∈ l, okS x) : Ev (fun k => impl_union.f k (l.map ofS)) ((canon l).map ofS) := by
  unfold impl_union.f impl_span_62.f
  obtain ⟨hp, ha⟩ := Srt.srt_spec l
  rw [if_pos (by simp; omega)]
  have e0 : (l.map ofS).map (fun x => (x.f0, x.f1)) = l := by rw [List.map_map]; exact (List.map_congr_left (g := id) fun x _ => rfl).trans (by simp)
  rw [e0, ← merge_eq hg hp ha]
  have hlen := hp.length_eq
  have hok : ∀ x ∈ Srt.srt l, okS x := fun x h => hx x (hp.mem_iff.1 h)
  generalize Srt.srt l = m at *
  simp only [Option.bind_some]
  show Ev (fun k => impl_union.l0 k [] (m.map ofS) ((m.map ofS).length : Int) 0) _
  cases m with
  | nil => refine Ev.succ ?_; simp only [impl_union.l0]; exact Ev.iteF (by simp) (by simpa [merge] using Ev.now ([] : List S50))
  | cons t r =>
    refine Ev.succ ?_
    simp only [impl_union.l0]
    refine Ev.iteT (by simp) (Ev.iteT (by omega) (Ev.iteT (by simp) (Ev.iteF (by simp) (Ev.iteT (by simp) ?_))))
    have e1 : wrap64 ((0 : Int) + 1) = (([ofS t] : List S50).length : Int) := by rw [w64] <;> simp
    have e2 : rd_T50 ((t :: r).map ofS) 0 = ofS t := rdS [] (ofS t) (r.map ofS)
    rw [e1, e2]
    have := union_l0 r [ofS t] [] t (((t :: r).map ofS).length : Int) (by simp) (by simp at hlen ⊢; omega) (by simp at hlen ⊢; omega) (hok t (by simp)) (fun y hy => hok y (by simp [hy]))
    simpa [merge, ofS] using this
theorem set_l0 : ∀ (s : List (Int × Int)) (p : List S50) (acc : List S32) (n : Int), n = ((p ++ s.map ofS).length : Int) → acc.length + s.length * 64 < 8796093022208 → (p ++ s.map ofS).length < 8796093022208 → Within s →
    Ev (fun k => impl_set.l0 k acc (p ++ s.map ofS) n (p.length : Int)) (acc ++ (covers s).map ofB) := by
  intro s
  induction s with
  | nil => intro p acc n hn _ _ _; refine Ev.succ ?_; simp only [impl_set.l0]; refine Ev.iteF (by simp [hn]) ?_; simpa [covers] using Ev.now acc
  | cons x s ih =>
    intro p acc n hn ha hl hw
    have e1 : wrap64 ((p.length : Int) + 1) = ((p ++ [ofS x]).length : Int) := by simp at hl; rw [w64 (by omega) (by omega)]; simp
    obtain ⟨w0, w1⟩ := hw x (by simp)
    have hc := @cover_len x.1 x.2 w0 (by omega)
    refine Ev.succ ?_
    simp only [impl_set.l0, List.map_cons]
    refine Ev.iteT (by simp [hn]; omega) (Ev.iteT (by omega) (Ev.iteT (by simp; omega) ?_))
    rw [rdS p (ofS x) (s.map ofS)]
    refine Ev.bind (blocks_ev (a := (ofS x).f0) (zt := (ofS x).f1) w0 w1) (Ev.iteT (by simp only [ofS]; simp at ha ⊢; omega) ?_)
    rw [e1]
    have := ih (p ++ [ofS x]) (acc ++ (SetMath.cover x.1 x.2).map ofB) n (by simpa using hn) (by simp at ha ⊢ <;> omega) (by simpa using hl) (fun y hy => hw y (by simp [hy]))
    rw [covers_cons]
    simpa [ofS] using this
theorem mrg_len : ∀ (r : List (Int × Int)) (t : Int × Int), (mrg t r).length ≤ r.length + 1
  | [], t => by simp [mrg]
  | s :: r, t => by
    unfold mrg; split
    · have := mrg_len r (t.1, max t.2 s.2); simp; omega
    · have := mrg_len r s; simp; omega
theorem canon_len (l : List (Int × Int)) : (canon l).length ≤ l.length := by
  have h := (isort_perm l).length_eq
  unfold canon
  cases e : isort l with
  | nil => simp [merge]
  | cons t r => have := mrg_len r t; rw [e] at h; simp [merge] at h ⊢; omega
theorem set_ev {l : List (Int × Int)} (hl : l.length < 68719476736) (hg : SetMath.Good l) (hw : Within l) : Ev (fun k => impl_set.f k (l.map ofS)) ((covers (canon l)).map ofB) := by
  unfold impl_set.f
  have hc := canon_len l
  have hok : ∀ x ∈ l, okS x := fun x hx => by have := hw x hx; have := hg x hx; constructor <;> omega
  refine Ev.bind (union_ev (by omega) hg hok) ?_
  simpa using set_l0 (canon l) [] [] _ (by simp) (by simp; omega) (by simp; omega) (canon_within hg hw)
def spansOf (l : List S32) : List (Int × Int) := (l.map toB).map spanOf
def SetOk (l : List S32) : Prop := l.length ≤ 64 ∧ (∀ x ∈ l, okI x) ∧ (covers (canon (spansOf l))).map ofB = l
instance decSet (l : List S32) : Decidable (SetOk l) := by unfold SetOk; exact inferInstance
theorem spansOf_good (l : List S32) : SetMath.Good (spansOf l) := spanOf_good _
theorem spansOf_within {l : List S32} (h : ∀ x ∈ l, okI x) : Within (spansOf l) := by
  refine spans_within fun b hb => ?_
  obtain ⟨x, hx, rfl⟩ := List.mem_map.1 hb
  exact ((okI_iff x).1 (h x hx)).1
theorem flat_len {l : List (Int × Int)} (h : Within l) : (covers l).length ≤ l.length * 64 := by
  induction l with
  | nil => simp [covers]
  | cons s l ih =>
    rw [covers_cons, List.length_append]
    obtain ⟨w0, w1⟩ := h s (by simp)
    have := @cover_len s.1 s.2 w0 (by omega)
    have := ih fun y hy => h y (by simp [hy])
    simp; omega
theorem setOk_ev (l : List S32) : Ev (fun k => impl_SetOk.f k l) (decide (SetOk l)) := by
  unfold impl_SetOk.f
  refine Ev.bind blocksOk_ev ?_
  by_cases h : l.length ≤ 64 ∧ ∀ x ∈ l, okI x
  · refine Ev.iteT (decide_eq_true h) (Ev.bind (spans_ev (by omega) h.2) ?_)
    have hw := spansOf_within h.2
    have hc := canon_len (spansOf l)
    have hf := flat_len (canon_within (spansOf_good l) hw)
    have hs : (spansOf l).length = l.length := by simp [spansOf]
    refine Ev.bind (set_ev (l := spansOf l) (by omega) (spansOf_good l) hw) (Ev.bind (b51_ev (by simp; omega)) ?_)
    have e : decide (SetOk l) = decide ((covers (canon (spansOf l))).map ofB = l) := by
      rw [decide_eq_decide]; exact ⟨fun q => q.2.2, fun q => ⟨h.1, h.2, q⟩⟩
    rw [e]; exact Ev.now _
  · refine Ev.iteF (by simpa using h) ?_
    rw [decide_eq_false (fun q => h ⟨q.1, q.2.1⟩)]; exact Ev.now _
theorem block_size {x : S32} (h : okI x) : impl_Block_size.f x.f0 x.f1 = some (sz x.f1.toNat) := by
  obtain ⟨q1, q2, q3, q4, q5⟩ := h
  have e2 : x.f1 = ((x.f1.toNat : Nat) : Int) := by omega
  conv => lhs; rw [e2]
  exact size_eq _ (by omega)
theorem block_last {x : S32} (h : okI x) : impl_Block_last.f x.f0 x.f1 = some (x.f0 + sz x.f1.toNat - 1) := by
  obtain ⟨q1, q2, q3, q4, q5⟩ := h
  have e2 : x.f1 = ((x.f1.toNat : Nat) : Int) := by omega
  conv => lhs; rw [e2]
  exact last_eq (by omega) (by omega) (by omega)
theorem size_l0 : ∀ (s p : List S32) (acc n : Int), n = ((p ++ s).length : Int) → 0 ≤ acc → acc + s.length * 4294967296 < 9223372036854775808 → (p ++ s).length < 8796093022208 → (∀ x ∈ s, okI x) →
    Ev (fun k => impl_SetSize.l0 k acc (p ++ s) n (p.length : Int)) (acc + total (spansOf s)) := by
  intro s
  induction s with
  | nil => intro p acc n hn _ _ _ _; refine Ev.succ ?_; simp only [impl_SetSize.l0]; refine Ev.iteF (by simp [hn]) ?_; simpa [spansOf, total] using Ev.now acc
  | cons x s ih =>
    intro p acc n hn h0 ha hl hx
    have e1 : wrap64 ((p.length : Int) + 1) = ((p ++ [x]).length : Int) := by simp at hl; rw [w64 (by omega) (by omega)]; simp
    have hz := sz_pos x.f1.toNat
    have hz2 := sz_lt (b := x.f1.toNat)
    simp at ha
    refine Ev.succ ?_
    simp only [impl_SetSize.l0]
    refine Ev.iteT (by simp [hn]; omega) (Ev.iteT (by omega) (Ev.iteT (by simp; omega) ?_))
    rw [rdB p x s, block_size (hx x (by simp))]
    simp only [Option.bind_some]
    rw [e1, w64 (by omega) (by omega)]
    have := ih (p ++ [x]) (acc + sz x.f1.toNat) n (by simpa using hn) (by omega) (by omega) (by simpa using hl) (fun y hy => hx y (by simp [hy]))
    have e5 : total (spansOf (x :: s)) = sz x.f1.toNat + total (spansOf s) := by simp only [spansOf, List.map_cons, total_cons, spanOf, toB]; omega
    rw [e5, ← Int.add_assoc]
    simpa using this
theorem setSize_ev (l : List S32) : Ev (fun k => impl_SetSize.f k l) (if SetOk l then total (spansOf l) else 0) := by
  unfold impl_SetSize.f
  refine Ev.bind (setOk_ev l) ?_
  by_cases h : SetOk l
  · refine Ev.iteT (decide_eq_true h) ?_
    have := size_l0 l [] 0 l.length (by simp) (by omega) (by have := h.1; omega) (by have := h.1; simp; omega) h.2.1
    rw [if_pos h]
    simpa using this
  · refine Ev.iteF (by simpa using h) ?_
    rw [if_neg h]; exact Ev.now _
theorem has_eq {x : S32} (h : okI x) (a : Int) : impl_Block_has.f x.f0 x.f1 a = some (decide (x.f0 ≤ a ∧ a ≤ x.f0 + sz x.f1.toNat - 1)) := by
  unfold impl_Block_has.f
  rw [block_last h]
  simp only [Option.bind_some]
  rw [in_eq]; rfl
theorem memS_spans (l : List S32) (a : Int) : memS (spansOf l) a ↔ ∃ x ∈ l, x.f0 ≤ a ∧ a ≤ x.f0 + sz x.f1.toNat - 1 := by
  constructor
  · rintro ⟨s, hs, h⟩
    obtain ⟨b, hb, rfl⟩ := List.mem_map.1 hs
    obtain ⟨x, hx, rfl⟩ := List.mem_map.1 hb
    exact ⟨x, hx, h⟩
  · rintro ⟨x, hx, h⟩
    exact ⟨spanOf (toB x), List.mem_map.2 ⟨toB x, List.mem_map.2 ⟨x, hx, rfl⟩, rfl⟩, h⟩
theorem setHas_ev (l : List S32) (a : Int) {d : Bool} (hd : d = true ↔ SetOk l ∧ memS (spansOf l) a) : Ev (fun k => impl_SetHas.f k l a) d := by
  unfold impl_SetHas.f
  refine Ev.bind (setOk_ev l) ?_
  by_cases h : SetOk l
  · refine Ev.iteT (decide_eq_true h) (Ev.iteT ?_ ?_)
    · rw [List.all_eq_true]; intro x hx; rw [has_eq (h.2.1 x hx)]; rfl
    · have e : (l.any fun b => impl_Block_has.f b.f0 b.f1 a == some true) = d := by
        rw [Bool.eq_iff_iff, hd, List.any_eq_true, memS_spans]
        constructor
        · rintro ⟨x, hx, hh⟩
          rw [has_eq (h.2.1 x hx)] at hh
          exact ⟨h, x, hx, by simpa using hh⟩
        · rintro ⟨_, x, hx, hh⟩
          refine ⟨x, hx, ?_⟩
          rw [has_eq (h.2.1 x hx)]
          simpa using hh
      rw [e]; exact Ev.now _
  · refine Ev.iteF (by simpa using h) ?_
    have : d = false := by cases d with
      | false => rfl
      | true => exact absurd (hd.1 rfl).1 h
    rw [this]; exact Ev.now _
end Go.Proofs.YthkjkmgbdahggaaGreat.Sets
