/- The law side's sets: blocks in order, spans sorted and made one, order of a set, membership, size, the set of blocks. -/
import Derived.Test.YthkjkmgbdahggaaSetsC
import Derived.Test.YthkjkmgbdahggaaPLx13
import Derived.Test.YthkjkmgbdahggaaPLx11
namespace Go.Proofs.Ythkjkmgbdahggaa.Sets
open Go.RowKit Go.Proofs.Ythkjkmgbdahggaa.PL Go.Proofs.YthkjkmgbdahggaaW.PrintWords Go.Proofs.YthkjkmgbdahggaaW.PrintLast Go.Proofs.YthkjkmgbdahggaaW.PrintMore Go.Proofs.Ythkjkmgbdahggaa.SetMath
set_option linter.unusedVariables false
set_option linter.unusedSimpArgs false
theorem sizeI_ev {x : S40} (h : okI x) : Ev (fun k => spec_l1Size.f k x.f1) (sz x.f1.toNat) := by
  obtain ⟨q1, q2, q3, q4, q5⟩ := h
  have e2 : x.f1 = ((x.f1.toNat : Nat) : Int) := by omega
  have := sizeS_ev (n := x.f1.toNat) (by omega)
  rwa [← e2] at this
theorem blockOkS_ev (x : S40) : Ev (fun k => spec_BlockOk.f k x.f0 x.f1) (decide (okI x)) := by
  unfold spec_BlockOk.f
  refine Ev.pre (l1Addr_eq x.f0) ?_
  by_cases h : 0 ≤ x.f0 ∧ x.f0 ≤ 4294967295
  · refine Ev.iteT (decide_eq_true h) (Ev.pre (l1In_eq x.f1 0 32) ?_)
    by_cases h2 : 0 ≤ x.f1 ∧ x.f1 ≤ 32
    · have e2 : x.f1 = ((x.f1.toNat : Nat) : Int) := by omega
      have hs := sizeS_ev (n := x.f1.toNat) (by omega)
      rw [← e2] at hs
      have hp := sz_pos x.f1.toNat
      refine Ev.iteT (decide_eq_true h2) (Ev.bind hs (Ev.iteF (by omega) ?_))
      have e : (Int.tmod x.f0 (sz x.f1.toNat) == 0) = decide (okI x) := by
        rw [Bool.eq_iff_iff, beq_iff_eq, decide_eq_true_eq, tmod_iff hp]
        exact ⟨fun hd => ⟨h.1, h.2, h2.1, h2.2, hd⟩, fun hd => hd.2.2.2.2⟩
      rw [e]; exact Ev.now _
    · refine Ev.iteF (by simpa using h2) ?_
      rw [decide_eq_false (fun q : okI x => h2 ⟨q.2.2.1, q.2.2.2.1⟩)]; exact Ev.now _
  · refine Ev.iteF (by simpa using h) ?_
    rw [decide_eq_false (fun q : okI x => h ⟨q.1, q.2.1⟩)]; exact Ev.now _
theorem l2Blocks_l0 : ∀ (s p : List S40), (p ++ s).length < 8796093022208 → Ev (fun k => spec_l2Blocks.l0 k (p ++ s) (p.length : Int)) (decide ((p ++ s).length ≤ 64 ∧ ∀ x ∈ s, okI x)) := by
  intro s
  induction s with
  | nil =>
    intro p hl
    refine Ev.succ ?_
    simp only [spec_l2Blocks.l0]
    refine Ev.iteF (by simp) ?_
    have e : decide (((p ++ []).length : Int) ≤ 64) = decide ((p ++ []).length ≤ 64 ∧ ∀ x ∈ ([] : List S40), okI x) := by
      rw [decide_eq_decide]; exact ⟨fun h => ⟨by omega, by simp⟩, fun h => by omega⟩
    rw [e]; exact Ev.now _
  | cons x s ih =>
    intro p hl
    have e1 : wrap64 ((p.length : Int) + 1) = ((p ++ [x]).length : Int) := by simp at hl; rw [w64 (by omega) (by omega)]; simp
    refine Ev.succ ?_
    simp only [spec_l2Blocks.l0]
    refine Ev.iteT (by simp; omega) (Ev.iteT (by omega) ?_)
    rw [rdB p x s]
    refine Ev.bind (blockOkS_ev x) ?_
    by_cases h : okI x
    · refine Ev.iteT (decide_eq_true h) ?_
      rw [e1]
      have := ih (p ++ [x]) (by simpa using hl)
      have e : decide ((p ++ x :: s).length ≤ 64 ∧ ∀ y ∈ x :: s, okI y) = decide (((p ++ [x]) ++ s).length ≤ 64 ∧ ∀ y ∈ s, okI y) := by
        rw [decide_eq_decide]; simp [h]
      rw [e]
      simpa using this
    · refine Ev.iteF (by simpa using h) ?_
      rw [decide_eq_false (fun q => h (q.2 x (by simp)))]; exact Ev.now _
theorem l2Blocks_ev {l : List S40} (hl : l.length < 8796093022208) : Ev (fun k => spec_l2Blocks.f k l) (decide (l.length ≤ 64 ∧ ∀ x ∈ l, okI x)) := by
  unfold spec_l2Blocks.f
  simpa using l2Blocks_l0 l [] (by simpa using hl)
def ofP (x : Int × Int) : S72 := ⟨x.1, x.2⟩
theorem map_to_ofP (l : List (Int × Int)) : (l.map ofP).map toP = l := by
  rw [List.map_map]; exact (List.map_congr_left (g := id) fun x _ => rfl).trans (by simp)
theorem lastS_ev {x : S40} (h : okI x) : Ev (fun k => spec_l1Last.f k x.f0 x.f1) (x.f0 + sz x.f1.toNat - 1) := by
  unfold spec_l1Last.f
  have hp := sz_pos x.f1.toNat
  have hl := sz_lt (b := x.f1.toNat)
  have hok := h
  obtain ⟨q1, q2, q3, q4, q5⟩ := h
  refine Ev.bind (sizeI_ev hok) ?_
  rw [w64 (x := x.f0 + sz x.f1.toNat) (by omega) (by omega), w64 (by omega) (by omega)]
  exact Ev.now _
theorem insS_l1 {x0 : List S40} {i : Int} {x : Int × Int} {r : List S72} : ∀ (s : List (Int × Int)) (p : List S72), (p ++ s.map ofP).length < 8796093022000 → Ev (fun k => spec_l2Spans.l0 k x0 (p ++ (ins x s).map ofP) (wrap64 (i + 1))) r →
    Ev (fun k => spec_l2Spans.l1 k x0 (p ++ s.map ofP) i (p.length : Int) x.1 x.2) r := by
  intro s
  induction s with
  | nil =>
    intro p hl h
    simp at hl
    refine Ev.succ ?_
    simp only [spec_l2Spans.l1]
    refine Ev.iteF (by simp) ?_
    simp only [Option.bind_some]
    refine Ev.iteT (by omega) (Ev.iteT (by simp) (Ev.iteT (by simp; omega) (Ev.iteT (by simp; omega) (Ev.iteT (by simp; omega) ?_))))
    simpa [ins, ofP] using h
  | cons t s ih =>
    intro p hl h
    simp at hl
    refine Ev.succ ?_
    simp only [spec_l2Spans.l1, List.map_cons]
    refine Ev.iteT (by simp; omega) (Ev.iteT (by omega) ?_)
    rw [rdP p (ofP t) (s.map ofP)]
    by_cases hc : t.1 < x.1
    · refine Ev.iteT hc ?_
      have e1 : wrap64 ((p.length : Int) + 1) = ((p ++ [ofP t]).length : Int) := by rw [w64 (by omega) (by omega)]; simp
      rw [e1]
      have := ih (p ++ [ofP t]) (by simp; omega) (by simpa [ins, hc] using h)
      simpa using this
    · refine Ev.iteF hc ?_
      simp only [Option.bind_some]
      refine Ev.iteT (by simp <;> omega) (Ev.iteT (by simp; omega) (Ev.iteT (by simp; omega) (Ev.iteT (by simp; omega) ?_)))
      simpa [ins, hc, ofP] using h
theorem sortS_l0 {r : List S72} : ∀ (s p : List S40) (a : List (Int × Int)), (∀ x ∈ s, okI x) → (p ++ s).length < 8796093020 → a.length + s.length < 8796093020 →
    Ev (fun k => spec_l2Spans.l2 k (((spansOf s).foldl (fun a x => ins x a) a).map ofP) [] 0) r →
    Ev (fun k => spec_l2Spans.l0 k (p ++ s) (a.map ofP) (p.length : Int)) r := by
  intro s
  induction s with
  | nil =>
    intro p a _ _ _ h
    refine Ev.succ ?_
    simp only [spec_l2Spans.l0]
    refine Ev.iteF (by simp) ?_
    simpa [spansOf] using h
  | cons x s ih =>
    intro p a hx hl ha h
    simp at hl ha
    have e1 : wrap64 ((p.length : Int) + 1) = ((p ++ [x]).length : Int) := by rw [w64 (by omega) (by omega)]; simp
    refine Ev.succ ?_
    simp only [spec_l2Spans.l0]
    refine Ev.iteT (by simp; omega) (Ev.iteT (by omega) ?_)
    rw [rdB p x s]
    refine Ev.bind (lastS_ev (hx x (by simp))) ?_
    have hlen : (ins (x.f0, x.f0 + sz x.f1.toNat - 1) a).length = a.length + 1 := by simpa using (ins_perm (x.f0, x.f0 + sz x.f1.toNat - 1) a).length_eq
    have h2 := ih (p ++ [x]) (ins (x.f0, x.f0 + sz x.f1.toNat - 1) a) (fun y hy => hx y (by simp [hy])) (by simp; omega) (by omega) (by simpa [spansOf, spanOf, toB] using h)
    have := insS_l1 (x0 := p ++ x :: s) (i := (p.length : Int)) (x := (x.f0, x.f0 + sz x.f1.toNat - 1)) (r := r) a [] (by simp; omega) (by rw [e1]; simpa using h2)
    simpa using this
theorem mergeS_l2 : ∀ (s : List (Int × Int)) (p f : List S72) (t : Int × Int), f.length + s.length < 8796093020 → (p ++ s.map ofP).length < 8796093020 → okS t → (∀ x ∈ s, okS x) →
    Ev (fun k => spec_l2Spans.l2 k (p ++ s.map ofP) (f ++ [ofP t]) (p.length : Int)) (f ++ (mrg t s).map ofP) := by
  intro s
  induction s with
  | nil => intro p f t _ _ _ _; refine Ev.succ ?_; simp only [spec_l2Spans.l2]; refine Ev.iteF (by simp) ?_; simpa [mrg] using Ev.now (f ++ [ofP t])
  | cons x s ih =>
    intro p f t ha hl ht hx
    obtain ⟨t1, t2⟩ := ht
    obtain ⟨x1, x2⟩ := hx x (by simp)
    simp at ha hl
    have e1 : wrap64 ((p.length : Int) + 1) = ((p ++ [ofP x]).length : Int) := by rw [w64 (by omega) (by omega)]; simp
    have e3 : wrap64 (((f ++ [ofP t]).length : Int) - 1) = (f.length : Int) := by rw [w64 (by simp <;> omega) (by simp <;> omega)]; simp
    refine Ev.succ ?_
    simp only [spec_l2Spans.l2, List.map_cons]
    rw [e3]
    refine Ev.iteT (by simp; omega) (Ev.iteT (by omega) (Ev.iteT (by omega) (Ev.iteT (by omega) (Ev.iteT (by simp <;> omega) ?_))))
    rw [rdP p (ofP x) (s.map ofP), show rd_T72 (f ++ [ofP t]) (f.length : Int) = ofP t from rdP f (ofP t) [], w64 (x := (ofP t).f1 + 1) (by simp only [ofP]; omega) (by simp only [ofP]; omega)]
    refine Ev.succ ?_
    simp only [spec_l2Spans.j3]
    rw [rdP p (ofP x) (s.map ofP), show rd_T72 (f ++ [ofP t]) (f.length : Int) = ofP t from rdP f (ofP t) [], e1]
    unfold mrg
    by_cases h : x.1 ≤ t.2 + 1
    · rw [if_pos h]
      refine Ev.iteT (decide_eq_true h) (Ev.iteT (by omega) (Ev.iteT (by simp; omega) (Ev.iteT (by omega) (Ev.iteT (by simp <;> omega) ?_))))
      have hih := ih (p ++ [ofP x]) f (t.1, max t.2 x.2) (by omega) (by simp; omega) ⟨by simp only; omega, by simp only; omega⟩ (fun y hy => hx y (by simp [hy]))
      by_cases h2 : x.2 > t.2
      · refine Ev.iteT h2 ?_
        have e4 : (f ++ [ofP t]).set ((f.length : Int)).toNat (⟨(ofP t).f0, (ofP x).f1⟩ : S72) = f ++ [ofP (t.1, max t.2 x.2)] := by
          rw [show max t.2 x.2 = x.2 from by omega]; simp [ofP]
        rw [e4]
        simpa using hih
      · refine Ev.iteF h2 ?_
        rw [show (t.1, max t.2 x.2) = t from Prod.ext rfl (by simp only; omega)] at hih ⊢
        simpa using hih
    · rw [if_neg h]
      refine Ev.iteF (fun q => h (of_decide_eq_true q)) (Ev.iteT (by omega) (Ev.iteT (by simp; omega) ?_))
      simp only [Option.bind_some]
      refine Ev.iteT (by simp <;> omega) ?_
      have := ih (p ++ [ofP x]) (f ++ [ofP t]) x (by simp; omega) (by simp; omega) ⟨x1, x2⟩ (fun y hy => hx y (by simp [hy]))
      simpa [ofP] using this
theorem mergeS_ev (m : List (Int × Int)) (hl : m.length < 8796093000) (hx : ∀ x ∈ m, okS x) : Ev (fun k => spec_l2Spans.l2 k (m.map ofP) [] 0) ((merge m).map ofP) := by
  cases m with
  | nil => refine Ev.succ ?_; simp only [spec_l2Spans.l2]; exact Ev.iteF (by simp) (by simpa [merge] using Ev.now ([] : List S72))
  | cons t r =>
    have e0 : wrap64 ((([] : List S72).length : Int) - 1) = -1 := by rw [w64] <;> simp
    have e1 : wrap64 ((0 : Int) + 1) = (([ofP t] : List S72).length : Int) := by rw [w64] <;> simp
    have e2 : rd_T72 ((t :: r).map ofP) 0 = ofP t := rdP [] (ofP t) (r.map ofP)
    refine Ev.succ ?_
    simp only [spec_l2Spans.l2]
    rw [e0]
    refine Ev.iteT (by simp) (Ev.iteF (by omega) (Ev.succ ?_))
    simp only [spec_l2Spans.j3]
    rw [e1, e2]
    refine Ev.iteF (by decide) (Ev.iteT (by omega) (Ev.iteT (by simp) ?_))
    simp only [Option.bind_some]
    refine Ev.iteT (by simp) ?_
    have := mergeS_l2 r [ofP t] [] t (by simp at hl ⊢; omega) (by simp at hl ⊢; omega) (hx t (by simp)) (fun y hy => hx y (by simp [hy]))
    simpa [merge, ofP] using this
theorem okS_of {s : Int × Int} (hw : 0 ≤ s.1 ∧ s.2 ≤ 4294967295) (hg : s.1 ≤ s.2) : okS s := by constructor <;> omega
theorem l2Spans_ev {l : List S40} (hl : l.length < 4096093000) (hx : ∀ x ∈ l, okI x) : Ev (fun k => spec_l2Spans.f k l) ((canon (spansOf l)).map ofP) := by
  unfold spec_l2Spans.f
  have hw := spansOf_within hx
  have hg := spansOf_good l
  have hp := isort_perm (spansOf l)
  have hlen : (isort (spansOf l)).length = l.length := by rw [hp.length_eq]; simp [spansOf]
  have hm := mergeS_ev (isort (spansOf l)) (by omega) (fun x hxm => okS_of (hw x (hp.mem_iff.1 hxm)) (hg x (hp.mem_iff.1 hxm)))
  have := sortS_l0 (r := (canon (spansOf l)).map ofP) l [] [] hx (by simp; omega) (by simp; omega) hm
  simpa using this
theorem same_l0 : ∀ (s t p q : List S40), p.length = q.length → s.length = t.length → (p ++ s).length < 8796093022208 → Ev (fun k => spec_l2Same.l0 k (p ++ s) (q ++ t) (p.length : Int)) (decide (s = t)) := by
  intro s
  induction s with
  | nil => intro t p q hpq hst _; obtain rfl : t = [] := by simpa using hst.symm
           refine Ev.succ ?_; simp only [spec_l2Same.l0]; refine Ev.iteF (by simp) ?_; simpa using Ev.now true
  | cons x s ih =>
    intro t p q hpq hst hl
    cases t with
    | nil => cases hst
    | cons y t =>
    have e1 : wrap64 ((p.length : Int) + 1) = ((p ++ [x]).length : Int) := by simp at hl; rw [w64 (by omega) (by omega)]; simp
    refine Ev.succ ?_
    simp only [spec_l2Same.l0]
    refine Ev.iteT (by simp; omega) (Ev.iteT (by omega) (Ev.iteT (by simp; omega) ?_))
    rw [rdB p x s, show (p.length : Int) = q.length from by rw [hpq], rdB q y t]
    by_cases h : x = y
    · subst h
      refine Ev.iteF (fun h => absurd rfl ((neB x x).1 h)) ?_
      have := ih t (p ++ [x]) (q ++ [x]) (by simp [hpq]) (by simpa using hst) (by simpa using hl)
      rw [← hpq, e1]
      simpa using this
    · refine Ev.iteT ((neB x y).2 h) ?_
      simpa [h] using Ev.now false
theorem same_ev {s t : List S40} (hl : s.length < 8796093022208) : Ev (fun k => spec_l2Same.f k s t) (decide (s = t)) := by
  unfold spec_l2Same.f
  by_cases h : s.length = t.length
  · refine Ev.iteT (by omega) ?_
    simpa using same_l0 s t [] [] rfl h (by simpa using hl)
  · refine Ev.iteF (by omega) ?_
    have : ¬ s = t := fun e => h (by rw [e])
    simpa [this] using Ev.now false
theorem cover_spans_ev {l : List S40} (h : l.length ≤ 64 ∧ ∀ x ∈ l, okI x) : Ev (fun k => spec_l2Cover.f k ((canon (spansOf l)).map ofP)) ((covers (canon (spansOf l))).map ofB) := by
  have hw := canon_within (spansOf_good l) (spansOf_within h.2)
  have hc := canon_len (spansOf l)
  have hs : (spansOf l).length = l.length := by simp [spansOf]
  have := coverS_ev (l := (canon (spansOf l)).map ofP) (by intro x hx; obtain ⟨y, hy, rfl⟩ := List.mem_map.1 hx; exact hw y hy) (by simp; omega)
  rwa [map_to_ofP] at this
theorem setOkS_ev {l : List S40} (hl : l.length < 8796093022208) : Ev (fun k => spec_SetOk.f k l) (decide (SetOk l)) := by
  unfold spec_SetOk.f
  refine Ev.bind (l2Blocks_ev hl) ?_
  by_cases h : l.length ≤ 64 ∧ ∀ x ∈ l, okI x
  · refine Ev.iteT (decide_eq_true h) (Ev.bind (l2Spans_ev (by omega) h.2) (Ev.bind (cover_spans_ev h) (Ev.bind (same_ev hl) ?_)))
    have e : decide (SetOk l) = decide (l = (covers (canon (spansOf l))).map ofB) := by
      rw [decide_eq_decide]; exact ⟨fun q => q.2.2.symm, fun q => ⟨h.1, h.2, q.symm⟩⟩
    rw [e]; exact Ev.now _
  · refine Ev.iteF (by simpa using h) ?_
    rw [decide_eq_false (fun q => h ⟨q.1, q.2.1⟩)]; exact Ev.now _
end Go.Proofs.Ythkjkmgbdahggaa.Sets
