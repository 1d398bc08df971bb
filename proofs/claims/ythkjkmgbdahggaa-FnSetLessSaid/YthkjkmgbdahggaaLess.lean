/- Difference and intersection of sets, on both sides. -/
import Derived.Test.YthkjkmgbdahggaaSetsE
import Derived.Test.YthkjkmgbdahggaaLessMath
import Derived.Test.YthkjkmgbdahggaaPLx13
import Derived.Test.YthkjkmgbdahggaaPLx14
import Derived.Test.YthkjkmgbdahggaaPLx15
namespace Go.Proofs.Ythkjkmgbdahggaa.Sets
open Go.RowKit Go.Proofs.Ythkjkmgbdahggaa.PL Go.Proofs.YthkjkmgbdahggaaW.PrintWords Go.Proofs.YthkjkmgbdahggaaW.PrintLast Go.Proofs.YthkjkmgbdahggaaW.PrintMore Go.Proofs.Ythkjkmgbdahggaa.SetMath
set_option linter.unusedVariables false
set_option linter.unusedSimpArgs false
def ofSpans (l : List (Int × Int)) : List S40 × Bool := if ((covers (canon l)).map ofB).length ≤ 64 then ((covers (canon l)).map ofB, true) else ([], false)
theorem limited_eq (l : List S40) : impl_limited.f l = some (if l.length ≤ 64 then (l, true) else ([], false)) := by
  unfold impl_limited.f
  by_cases h : l.length ≤ 64
  · rw [if_pos h, if_neg (by omega)]
  · rw [if_neg h, if_pos (by omega)]
theorem room_eq (l : List S40) : spec_l2Room.f l = some (if l.length ≤ 64 then (l, true) else ([], false)) := by
  unfold spec_l2Room.f
  by_cases h : l.length ≤ 64
  · rw [if_pos h, if_neg (by omega)]
  · rw [if_neg h, if_pos (by omega)]
theorem lessI_l1 {b : List S40} {X : List S68} {N i : Int} {r : List S40 × Bool} : ∀ (s : List (Int × Int)) (p : List S68) (acc : List S68) (x : Int × Int) (n : Int), n = ((p ++ s.map ofS).length : Int) →
    acc.length + s.length < 8796093020 → (p ++ s.map ofS).length < 8796093020 → SetMath.Good s → Within s →
    Ev (fun k => impl_SetLess.l0 k b (acc ++ (cutAll x s).map ofS) X N (wrap64 (i + 1))) r →
    Ev (fun k => impl_SetLess.l1 k b acc X N i (p ++ s.map ofS) n (p.length : Int) x.1 x.2) r := by
  intro s
  induction s with
  | nil =>
    intro p acc x n hn ha hl hg hw h
    refine Ev.succ ?_
    simp only [impl_SetLess.l1]
    refine Ev.iteF (by simp [hn]) ?_
    by_cases hc : x.1 ≤ x.2
    · refine Ev.iteT hc (Ev.iteT (by simp at ha; omega) ?_)
      simpa [cutAll, cut, hc, ofS] using h
    · refine Ev.iteF hc ?_
      simpa [cutAll, cut, hc] using h
  | cons y s ih =>
    intro p acc x n hn ha hl hg hw h
    obtain ⟨g1, g2⟩ := SetMath.Good.cons.1 hg
    obtain ⟨w1, w2⟩ := hw y (by simp)
    simp at ha hl
    have e1 : wrap64 ((p.length : Int) + 1) = ((p ++ [ofS y]).length : Int) := by rw [w64 (by omega) (by omega)]; simp
    have hih := fun acc x (ha' : acc.length + s.length < 8796093020) h => ih (p ++ [ofS y]) acc x n (by simpa using hn) ha' (by simp; omega) g2 (fun z hz => hw z (by simp [hz])) h
    have hrd := rdS p (ofS y) (s.map ofS)
    refine Ev.succ ?_
    simp only [impl_SetLess.l1, List.map_cons]
    refine Ev.iteT (by simp [hn]; omega) (Ev.iteT (by omega) (Ev.iteT (by simp; omega) ?_))
    rw [hrd]
    have fin : Ev (fun k => impl_SetLess.j3 k b acc X N i (p ++ ofS y :: s.map ofS) n (p.length : Int) (decide (y.2 < x.1 ∨ y.1 > x.2)) x.1 x.2 (ofS y).f0 (ofS y).f1) r := by
      refine Ev.succ ?_
      simp only [impl_SetLess.j3]
      rw [e1]
      by_cases hc : y.2 < x.1 ∨ y.1 > x.2
      · refine Ev.iteT (decide_eq_true hc) ?_
        have := hih acc x (by omega) (by simpa [cutAll, cut, hc] using h)
        simpa using this
      · refine Ev.iteF (by simpa using hc) ?_
        have e2 : wrap64 ((ofS y).f1 + 1) = y.2 + 1 := w64 (by simp only [ofS]; omega) (by simp only [ofS]; omega)
        have e3 : wrap64 ((ofS y).f0 - 1) = y.1 - 1 := w64 (by simp only [ofS]; omega) (by simp only [ofS]; omega)
        rw [e2, e3]
        by_cases h2 : x.1 < y.1
        · refine Ev.iteT h2 (Ev.iteT (by omega) ?_)
          have := hih (acc ++ [ofS (x.1, y.1 - 1)]) (y.2 + 1, x.2) (by simp; omega) (by simpa [cutAll, cut, hc, h2] using h)
          simpa [ofS] using this
        · refine Ev.iteF h2 ?_
          have := hih acc (y.2 + 1, x.2) (by omega) (by simpa [cutAll, cut, hc, h2] using h)
          simpa using this
    by_cases hc : y.2 < x.1
    · refine Ev.iteT hc ?_
      rw [decide_eq_true (Or.inl hc : y.2 < x.1 ∨ y.1 > x.2)] at fin
      exact fin
    · refine Ev.iteF hc ?_
      rw [show decide (y.2 < x.1 ∨ y.1 > x.2) = decide ((ofS y).f0 > x.2) from by rw [decide_eq_decide]; simp only [ofS]; omega] at fin
      exact fin
theorem spansB_ev {b : List S40} (hb : b.length ≤ 64 ∧ ∀ x ∈ b, okI x) : Ev (fun k => impl_spans.f k b) ((spansOf b).map ofS) := spans_ev (by omega) hb.2
theorem unionB_ev {b : List S40} (hb : b.length ≤ 64 ∧ ∀ x ∈ b, okI x) : Ev (fun k => impl_union.f k ((spansOf b).map ofS)) ((canon (spansOf b)).map ofS) := by
  have hw := spansOf_within hb.2
  have hg := spansOf_good b
  exact union_ev (by simp [spansOf]; omega) hg (fun x hx => okS_of (hw x hx) (hg x hx))
theorem canonB_len {b : List S40} (hb : b.length ≤ 64) : (canon (spansOf b)).length ≤ 64 := by
  have := canon_len (spansOf b)
  have : (spansOf b).length = b.length := by simp [spansOf]
  omega
theorem finish_ev {l : List (Int × Int)} (hl : l.length < 68719476736) (hg : SetMath.Good l) (hw : Within l) : Ev (fun k => (impl_set.f k (l.map ofS)).bind fun t => (impl_limited.f t).bind fun bt => some (bt.1, bt.2)) (ofSpans l) := by
  refine Ev.bind (set_ev hl hg hw) (Ev.pre (limited_eq _) ?_)
  exact Ev.now _
theorem lessI_l0 {b : List S40} (hb : b.length ≤ 64 ∧ ∀ x ∈ b, okI x) : ∀ (t : List (Int × Int)) (q : List S68) (acc : List (Int × Int)) (n : Int), n = ((q ++ t.map ofS).length : Int) → (q ++ t.map ofS).length < 8796093020 → acc.length + t.length * 65 < 1000000 →
    SetMath.Good (acc ++ less t (canon (spansOf b))) → Within (acc ++ less t (canon (spansOf b))) →
    Ev (fun k => impl_SetLess.l0 k b (acc.map ofS) (q ++ t.map ofS) n (q.length : Int)) (ofSpans (acc ++ less t (canon (spansOf b)))) := by
  intro t
  induction t with
  | nil =>
    intro q acc n hn hl ha hg hw
    simp only [less, List.flatMap_nil, List.append_nil] at hg hw ⊢
    refine Ev.succ ?_
    simp only [impl_SetLess.l0]
    refine Ev.iteF (by simp [hn]) ?_
    exact finish_ev (by omega) hg hw
  | cons x t ih =>
    intro q acc n hn hl ha hg hw
    have hB := canonB_len hb.1
    have hw2 := canon_within (spansOf_good b) (spansOf_within hb.2)
    have hg2 := (canon_spec (spansOf_good b)).1.2
    have hcl := cutAll_len x (canon (spansOf b))
    have e : less (x :: t) (canon (spansOf b)) = cutAll x (canon (spansOf b)) ++ less t (canon (spansOf b)) := by simp [less]
    rw [e, ← List.append_assoc] at hg hw ⊢
    simp at ha hl
    have e1 : wrap64 ((q.length : Int) + 1) = ((q ++ [ofS x]).length : Int) := by rw [w64 (by omega) (by omega)]; simp
    have hih := ih (q ++ [ofS x]) (acc ++ cutAll x (canon (spansOf b))) n (by simpa using hn) (by simp; omega) (by simp; omega) hg hw
    refine Ev.succ ?_
    simp only [impl_SetLess.l0, List.map_cons]
    refine Ev.iteT (by simp [hn]; omega) (Ev.iteT (by omega) (Ev.iteT (by simp; omega) ?_))
    rw [rdS q (ofS x) (t.map ofS)]
    refine Ev.bind (spansB_ev hb) (Ev.bind (unionB_ev hb) ?_)
    have := lessI_l1 (b := b) (X := q ++ ofS x :: t.map ofS) (N := n) (i := (q.length : Int)) (r := ofSpans (acc ++ cutAll x (canon (spansOf b)) ++ less t (canon (spansOf b)))) (canon (spansOf b)) [] (acc.map ofS) x _ rfl (by simp; omega) (by simp; omega) hg2 hw2
      (by rw [e1]; simpa using hih)
    simpa [show (ofS x).f0 = x.1 from rfl, show (ofS x).f1 = x.2 from rfl] using this
def setLess (a b : List S40) : List S40 × Bool := if SetOk a ∧ SetOk b then ofSpans (less (canon (spansOf a)) (canon (spansOf b))) else ([], false)
theorem less_facts {a b : List S40} (ha : SetOk a) (hb : SetOk b) : SetMath.Good (less (canon (spansOf a)) (canon (spansOf b))) ∧ Within (less (canon (spansOf a)) (canon (spansOf b))) ∧ (less (canon (spansOf a)) (canon (spansOf b))).length ≤ 4160 := by
  refine ⟨less_good _ _, ?_, ?_⟩
  · refine within_sub (less_good _ _) (fun p hp => ((less_mem (canon_spec (spansOf_good b)).1 p).1 hp).1) (canon_within (spansOf_good a) (spansOf_within ha.2.1))
  · have h1 := less_len (canon (spansOf a)) (canon (spansOf b))
    have h2 := canonB_len ha.1
    have h3 := canonB_len hb.1
    have := Nat.mul_le_mul h2 (show (canon (spansOf b)).length + 1 ≤ 65 by omega)
    omega
theorem lessI_ev (a b : List S40) : Ev (fun k => impl_SetLess.f k a b) (setLess a b) := by
  have bad : ¬ (SetOk a ∧ SetOk b) → Ev (fun k => impl_SetLess.j0 k a b true) (setLess a b) := by
    intro h
    refine Ev.succ ?_
    simp only [impl_SetLess.j0]
    unfold setLess; rw [if_neg h]; exact Ev.iteT (by simp) (Ev.now _)
  unfold impl_SetLess.f
  refine Ev.bind (setOk_ev a) ?_
  by_cases ha : SetOk a
  · refine Ev.iteT (decide_eq_true ha) (Ev.bind (setOk_ev b) ?_)
    by_cases hb : SetOk b
    · rw [decide_eq_true hb]
      refine Ev.succ ?_
      simp only [impl_SetLess.j0]
      refine Ev.iteF (by decide) (Ev.bind (spansB_ev ⟨ha.1, ha.2.1⟩) (Ev.bind (unionB_ev ⟨ha.1, ha.2.1⟩) ?_))
      obtain ⟨f1, f2, f3⟩ := less_facts ha hb
      have h2 := canonB_len ha.1
      have := lessI_l0 (b := b) ⟨hb.1, hb.2.1⟩ (canon (spansOf a)) [] [] _ rfl (by simp; omega) (by simp; omega) (by simpa using f1) (by simpa using f2)
      unfold setLess; rw [if_pos ⟨ha, hb⟩]
      simpa using this
    · rw [decide_eq_false hb]; exact bad (fun h => hb h.2)
  · refine Ev.iteF (by simpa using ha) (bad (fun h => ha h.1))
end Go.Proofs.Ythkjkmgbdahggaa.Sets
