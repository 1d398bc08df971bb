/- Difference of sets on the law side; intersection of sets. -/
import Derived.Test.YthkjkmgbdahggaaLess
namespace Go.Proofs.Ythkjkmgbdahggaa.Sets
open Go.RowKit Go.Proofs.Ythkjkmgbdahggaa.PL Go.Proofs.YthkjkmgbdahggaaW.PrintWords Go.Proofs.YthkjkmgbdahggaaW.PrintLast Go.Proofs.YthkjkmgbdahggaaW.PrintMore Go.Proofs.Ythkjkmgbdahggaa.SetMath
set_option linter.unusedVariables false
set_option linter.unusedSimpArgs false
theorem notS_l0 : ∀ (s : List (Int × Int)) (p acc : List S72) (a : Int), acc.length + s.length < 8796093020 → (p ++ s.map ofP).length < 8796093020 → SetMath.Good s → Within s →
    Ev (fun k => spec_l2Not.l0 k (p ++ s.map ofP) acc a (p.length : Int)) (acc ++ (gaps a s).map ofP) := by
  intro s
  induction s with
  | nil =>
    intro p acc a ha hl _ _
    simp at ha
    refine Ev.succ ?_
    simp only [spec_l2Not.l0, gaps]
    refine Ev.iteF (by simp) ?_
    by_cases h : a ≤ 4294967295
    · refine Ev.iteT h (Ev.iteT (by omega) ?_)
      rw [if_pos h]; exact Ev.now _
    · refine Ev.iteF h ?_
      rw [if_neg h]; simpa using Ev.now acc
  | cons x s ih =>
    intro p acc a ha hl hg hw
    obtain ⟨g1, g2⟩ := SetMath.Good.cons.1 hg
    obtain ⟨w1, w2⟩ := hw x (by simp)
    simp at ha hl
    have e1 : wrap64 ((p.length : Int) + 1) = ((p ++ [ofP x]).length : Int) := by rw [w64 (by omega) (by omega)]; simp
    have hih := fun acc (ha' : acc.length + s.length < 8796093020) => ih (p ++ [ofP x]) acc (x.2 + 1) ha' (by simp; omega) g2 (fun z hz => hw z (by simp [hz]))
    refine Ev.succ ?_
    simp only [spec_l2Not.l0, List.map_cons, gaps]
    refine Ev.iteT (by simp; omega) (Ev.iteT (by omega) ?_)
    rw [rdP p (ofP x) (s.map ofP), e1, w64 (x := (ofP x).f0 - 1) (by simp only [ofP]; omega) (by simp only [ofP]; omega), w64 (x := (ofP x).f1 + 1) (by simp only [ofP]; omega) (by simp only [ofP]; omega)]
    by_cases h : x.1 > a
    · refine Ev.iteT h (Ev.iteT (by omega) ?_)
      rw [if_pos h]
      have := hih (acc ++ [ofP (a, x.1 - 1)]) (by simp; omega)
      simpa [ofP] using this
    · refine Ev.iteF h ?_
      rw [if_neg h]
      have := hih acc (by omega)
      simpa [show (ofP x).f1 = x.2 from rfl] using this
theorem notS_ev {s : List (Int × Int)} (hl : s.length < 1000000) (hg : SetMath.Good s) (hw : Within s) : Ev (fun k => spec_l2Not.f k (s.map ofP)) ((gaps 0 s).map ofP) := by
  unfold spec_l2Not.f
  simpa using notS_l0 s [] [] 0 (by simp; omega) (by simp; omega) hg hw
def row (x : Int × Int) (N : List (Int × Int)) : List (Int × Int) := N.flatMap fun y => if max x.1 y.1 ≤ min x.2 y.2 then [(max x.1 y.1, min x.2 y.2)] else []
theorem both_cons (x : Int × Int) (A N : List (Int × Int)) : both (x :: A) N = row x N ++ both A N := by simp [both, row]
theorem row_cons (x y : Int × Int) (N : List (Int × Int)) : row x (y :: N) = (if max x.1 y.1 ≤ min x.2 y.2 then [(max x.1 y.1, min x.2 y.2)] else []) ++ row x N := by simp [row]
theorem bothS_l1 {A q : List S72} {x : Int × Int} {r : List S72} : ∀ (s : List (Int × Int)) (p acc : List S72), acc.length + s.length < 8796093020 → (p ++ s.map ofP).length < 8796093020 →
    Ev (fun k => spec_l2Both.l0 k (q ++ ofP x :: A) (p ++ s.map ofP) (acc ++ (row x s).map ofP) (wrap64 ((q.length : Int) + 1))) r →
    Ev (fun k => spec_l2Both.l1 k (q ++ ofP x :: A) (p ++ s.map ofP) acc (q.length : Int) (p.length : Int)) r := by
  intro s
  induction s with
  | nil =>
    intro p acc ha hl h
    refine Ev.succ ?_
    simp only [spec_l2Both.l1]
    refine Ev.iteF (by simp) ?_
    simpa [row] using h
  | cons y s ih =>
    intro p acc ha hl h
    simp at ha hl
    have e1 : wrap64 ((p.length : Int) + 1) = ((p ++ [ofP y]).length : Int) := by rw [w64 (by omega) (by omega)]; simp
    have hih := fun acc (ha' : acc.length + s.length < 8796093020) h => ih (p ++ [ofP y]) acc ha' (by simp; omega) h
    rw [row_cons] at h
    have fin : ∀ m, m = max x.1 y.1 → Ev (fun k => spec_l2Both.j2 k (q ++ ofP x :: A) (p ++ ofP y :: s.map ofP) acc (q.length : Int) (p.length : Int) m (ofP x).f1) r := by
      rintro m rfl
      refine Ev.succ ?_
      simp only [spec_l2Both.j2]
      refine Ev.iteT (by omega) (Ev.iteT (by simp; omega) ?_)
      rw [rdP p (ofP y) (s.map ofP), e1]
      by_cases h1 : y.2 < x.2
      · have em : min x.2 y.2 = y.2 := by omega
        rw [em] at h
        refine Ev.iteT h1 ?_
        by_cases h2 : max x.1 y.1 ≤ y.2
        · rw [if_pos h2] at h
          refine Ev.iteT h2 (Ev.iteT (by omega) ?_)
          have := hih (acc ++ [ofP (max x.1 y.1, y.2)]) (by simp; omega) (by simpa using h)
          simpa [ofP] using this
        · rw [if_neg h2] at h
          refine Ev.iteF h2 ?_
          have := hih acc (by omega) (by simpa using h)
          simpa using this
      · have em : min x.2 y.2 = x.2 := by omega
        rw [em] at h
        refine Ev.iteF h1 ?_
        by_cases h2 : max x.1 y.1 ≤ x.2
        · rw [if_pos h2] at h
          refine Ev.iteT h2 (Ev.iteT (by omega) ?_)
          have := hih (acc ++ [ofP (max x.1 y.1, x.2)]) (by simp; omega) (by simpa using h)
          simpa [ofP] using this
        · rw [if_neg h2] at h
          refine Ev.iteF h2 ?_
          have := hih acc (by omega) (by simpa using h)
          simpa using this
    refine Ev.succ ?_
    simp only [spec_l2Both.l1, List.map_cons]
    refine Ev.iteT (by simp; omega) (Ev.iteT (by omega) (Ev.iteT (by simp; omega) (Ev.iteT (by omega) ?_)))
    rw [rdP p (ofP y) (s.map ofP), rdP q (ofP x) A]
    by_cases hc : y.1 > x.1
    · exact Ev.iteT hc (fin _ (by simp only [ofP]; omega))
    · exact Ev.iteF hc (fin _ (by simp only [ofP]; omega))
theorem bothS_l0 {N : List (Int × Int)} (hN : N.length < 1000) : ∀ (t : List (Int × Int)) (q acc : List S72), (q ++ t.map ofP).length < 1000000 → acc.length + t.length * 1000 < 10000000 →
    Ev (fun k => spec_l2Both.l0 k (q ++ t.map ofP) (N.map ofP) acc (q.length : Int)) (acc ++ (both t N).map ofP) := by
  intro t
  induction t with
  | nil =>
    intro q acc _ _
    refine Ev.succ ?_
    simp only [spec_l2Both.l0]
    refine Ev.iteF (by simp) ?_
    simpa [both] using Ev.now acc
  | cons x t ih =>
    intro q acc hl ha
    simp at hl ha
    have e1 : wrap64 ((q.length : Int) + 1) = ((q ++ [ofP x]).length : Int) := by rw [w64 (by omega) (by omega)]; simp
    have hr : (row x N).length ≤ N.length := row_len x N
    have hih := ih (q ++ [ofP x]) (acc ++ (row x N).map ofP) (by simp; omega) (by simp; omega)
    refine Ev.succ ?_
    simp only [spec_l2Both.l0, List.map_cons]
    refine Ev.iteT (by simp; omega) ?_
    have := bothS_l1 (A := t.map ofP) (q := q) (x := x) (r := acc ++ (both (x :: t) N).map ofP) N [] acc (by omega) (by simp; omega) (by rw [e1, both_cons]; simpa using hih)
    simpa using this
theorem bothS_ev {A N : List (Int × Int)} (hA : A.length < 1000) (hN : N.length < 1000) : Ev (fun k => spec_l2Both.f k (A.map ofP) (N.map ofP)) ((both A N).map ofP) := by
  unfold spec_l2Both.f
  simpa using bothS_l0 hN A [] [] (by simp; omega) (by simp; omega)
theorem lessS_ev {a b : List S40} (hla : a.length < 8796093022208) (hlb : b.length < 8796093022208) : Ev (fun k => spec_SetLess.f k a b) (setLess a b) := by
  have bad : ¬ (SetOk a ∧ SetOk b) → Ev (fun k => spec_SetLess.j0 k a b true) (setLess a b) := by
    intro h
    refine Ev.succ ?_
    simp only [spec_SetLess.j0]
    unfold setLess; rw [if_neg h]; exact Ev.iteT (by simp) (Ev.now _)
  unfold spec_SetLess.f
  refine Ev.bind (setOkS_ev hla) ?_
  by_cases ha : SetOk a
  · refine Ev.iteT (decide_eq_true ha) (Ev.bind (setOkS_ev hlb) ?_)
    by_cases hb : SetOk b
    · rw [decide_eq_true hb]
      have la := ha.1
      have lb := hb.1
      have h2 := canonB_len ha.1
      have h3 := canonB_len hb.1
      have wA := canon_within (spansOf_good a) (spansOf_within ha.2.1)
      have wB := canon_within (spansOf_good b) (spansOf_within hb.2.1)
      have cA := (canon_spec (spansOf_good a)).1
      have cB := (canon_spec (spansOf_good b)).1
      have hgl := gaps_len (canon (spansOf b)) 0
      obtain ⟨⟨q1, q2⟩, q3⟩ := gaps_spec (canon (spansOf b)) 0 cB (fun s hs => wB s hs)
      have hbl := both_len (canon (spansOf a)) (gaps 0 (canon (spansOf b)))
      have hmul := Nat.mul_le_mul h2 (show (gaps 0 (canon (spansOf b))).length ≤ 65 by omega)
      have wBoth : Within (both (canon (spansOf a)) (gaps 0 (canon (spansOf b)))) := within_sub (both_good _ _) (fun p hp => ((both_mem _ _ p).1 hp).1) wA
      have hcov := coverS_ev (l := (both (canon (spansOf a)) (gaps 0 (canon (spansOf b)))).map ofP) (by intro x hx; obtain ⟨y, hy, rfl⟩ := List.mem_map.1 hx; exact wBoth y hy) (by simp; omega)
      rw [map_to_ofP] at hcov
      refine Ev.succ ?_
      simp only [spec_SetLess.j0]
      refine Ev.iteF (by decide) (Ev.bind (l2Spans_ev (by omega) ha.2.1) (Ev.bind (l2Spans_ev (by omega) hb.2.1) (Ev.bind (notS_ev (by omega) cB.2 wB) (Ev.bind (bothS_ev (by omega) (by omega)) (Ev.bind hcov (Ev.pre (room_eq _) ?_))))))
      have e : setLess a b = (if ((covers (both (canon (spansOf a)) (gaps 0 (canon (spansOf b))))).map ofB).length ≤ 64 then ((covers (both (canon (spansOf a)) (gaps 0 (canon (spansOf b))))).map ofB, true) else ([], false)) := by
        unfold setLess ofSpans
        rw [if_pos ⟨ha, hb⟩, less_both cA cB wA wB]
      rw [e]; exact Ev.now _
    · rw [decide_eq_false hb]; exact bad (fun h => hb h.2)
  · refine Ev.iteF (by simpa using ha) (bad (fun h => ha h.1))
theorem mn_eq (a b : Int) : mn a b = min a b := by unfold mn; split <;> omega
theorem bothI_l1 {b : List S40} {X : List S68} {N i : Int} {x : Int × Int} {r : List S40 × Bool} : ∀ (s : List (Int × Int)) (p acc : List S68) (n : Int), n = ((p ++ s.map ofS).length : Int) →
    acc.length + s.length < 8796093020 → (p ++ s.map ofS).length < 8796093020 →
    Ev (fun k => impl_SetBoth.l0 k b (acc ++ (row x s).map ofS) X N (wrap64 (i + 1))) r →
    Ev (fun k => impl_SetBoth.l1 k b acc X N i (p ++ s.map ofS) n (p.length : Int) x.1 x.2) r := by
  intro s
  induction s with
  | nil =>
    intro p acc n hn ha hl h
    refine Ev.succ ?_
    simp only [impl_SetBoth.l1]
    refine Ev.iteF (by simp [hn]) ?_
    simpa [row] using h
  | cons y s ih =>
    intro p acc n hn ha hl h
    simp at ha hl
    have e1 : wrap64 ((p.length : Int) + 1) = ((p ++ [ofS y]).length : Int) := by rw [w64 (by omega) (by omega)]; simp
    have hih := fun acc (ha' : acc.length + s.length < 8796093020) h => ih (p ++ [ofS y]) acc n (by simpa using hn) ha' (by simp; omega) h
    rw [row_cons] at h
    refine Ev.succ ?_
    simp only [impl_SetBoth.l1, List.map_cons]
    refine Ev.iteT (by simp [hn]; omega) (Ev.iteT (by omega) (Ev.iteT (by simp; omega) ?_))
    rw [rdS p (ofS y) (s.map ofS), e1, mx_eq, mn_eq]
    by_cases h2 : max x.1 y.1 ≤ min x.2 y.2
    · rw [if_pos h2] at h
      refine Ev.iteT h2 (Ev.iteT (by omega) ?_)
      have := hih (acc ++ [ofS (max x.1 y.1, min x.2 y.2)]) (by simp; omega) (by simpa using h)
      simpa [ofS] using this
    · rw [if_neg h2] at h
      refine Ev.iteF h2 ?_
      have := hih acc (by omega) (by simpa using h)
      simpa using this
theorem bothI_l0 {b : List S40} (hb : b.length ≤ 64 ∧ ∀ x ∈ b, okI x) : ∀ (t : List (Int × Int)) (q : List S68) (acc : List (Int × Int)) (n : Int), n = ((q ++ t.map ofS).length : Int) → (q ++ t.map ofS).length < 8796093020 → acc.length + t.length * 65 < 1000000 →
    SetMath.Good (acc ++ both t (spansOf b)) → Within (acc ++ both t (spansOf b)) →
    Ev (fun k => impl_SetBoth.l0 k b (acc.map ofS) (q ++ t.map ofS) n (q.length : Int)) (ofSpans (acc ++ both t (spansOf b))) := by
  intro t
  induction t with
  | nil =>
    intro q acc n hn hl ha hg hw
    simp only [both, List.flatMap_nil, List.append_nil] at hg hw ⊢
    refine Ev.succ ?_
    simp only [impl_SetBoth.l0]
    refine Ev.iteF (by simp [hn]) ?_
    exact finish_ev (by omega) hg hw
  | cons x t ih =>
    intro q acc n hn hl ha hg hw
    have hB : (spansOf b).length ≤ 64 := by have := hb.1; simp [spansOf]; omega
    have hr : (row x (spansOf b)).length ≤ (spansOf b).length := row_len x _
    rw [both_cons, ← List.append_assoc] at hg hw ⊢
    simp at ha hl
    have e1 : wrap64 ((q.length : Int) + 1) = ((q ++ [ofS x]).length : Int) := by rw [w64 (by omega) (by omega)]; simp
    have hih := ih (q ++ [ofS x]) (acc ++ row x (spansOf b)) n (by simpa using hn) (by simp; omega) (by simp; omega) hg hw
    refine Ev.succ ?_
    simp only [impl_SetBoth.l0, List.map_cons]
    refine Ev.iteT (by simp [hn]; omega) (Ev.iteT (by omega) (Ev.iteT (by simp; omega) ?_))
    rw [rdS q (ofS x) (t.map ofS)]
    refine Ev.bind (spansB_ev hb) ?_
    have := bothI_l1 (b := b) (X := q ++ ofS x :: t.map ofS) (N := n) (i := (q.length : Int)) (x := x) (r := ofSpans (acc ++ row x (spansOf b) ++ both t (spansOf b))) (spansOf b) [] (acc.map ofS) _ rfl (by simp; omega) (by simp; omega)
      (by rw [e1]; simpa using hih)
    simpa [show (ofS x).f0 = x.1 from rfl, show (ofS x).f1 = x.2 from rfl] using this
def setBoth (a b : List S40) : List S40 × Bool := if SetOk a ∧ SetOk b then ofSpans (both (spansOf a) (spansOf b)) else ([], false)
theorem bothI_ev (a b : List S40) : Ev (fun k => impl_SetBoth.f k a b) (setBoth a b) := by
  have bad : ¬ (SetOk a ∧ SetOk b) → Ev (fun k => impl_SetBoth.j0 k a b true) (setBoth a b) := by
    intro h
    refine Ev.succ ?_
    simp only [impl_SetBoth.j0]
    unfold setBoth; rw [if_neg h]; exact Ev.iteT (by simp) (Ev.now _)
  unfold impl_SetBoth.f
  refine Ev.bind (setOk_ev a) ?_
  by_cases ha : SetOk a
  · refine Ev.iteT (decide_eq_true ha) (Ev.bind (setOk_ev b) ?_)
    by_cases hb : SetOk b
    · rw [decide_eq_true hb]
      have la := ha.1
      have hs : (spansOf a).length = a.length := by simp [spansOf]
      refine Ev.succ ?_
      simp only [impl_SetBoth.j0]
      refine Ev.iteF (by decide) (Ev.bind (spansB_ev ⟨ha.1, ha.2.1⟩) ?_)
      have := bothI_l0 (b := b) ⟨hb.1, hb.2.1⟩ (spansOf a) [] [] _ rfl (by simp; omega) (by simp; omega) (by simpa using both_good _ _) (by simpa using within_sub (both_good _ _) (fun p hp => ((both_mem _ _ p).1 hp).1) (spansOf_within ha.2.1))
      unfold setBoth; rw [if_pos ⟨ha, hb⟩]
      simpa using this
    · rw [decide_eq_false hb]; exact bad (fun h => hb h.2)
  · refine Ev.iteF (by simpa using ha) (bad (fun h => ha h.1))
end Go.Proofs.Ythkjkmgbdahggaa.Sets
