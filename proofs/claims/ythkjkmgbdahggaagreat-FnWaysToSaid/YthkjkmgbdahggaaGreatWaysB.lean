/- The law's side of routes: the spans that lead to a hop, and their set. On the condition that the table is no longer than told. -/
import Derived.Test.YthkjkmgbdahggaaGreatWays
namespace Go.Proofs.YthkjkmgbdahggaaGreat.Sets
open Go.RowKit Go.Proofs.YthkjkmgbdahggaaGreat.PY Go.Proofs.YthkjkmgbdahggaaGreatW.PrintWords Go.Proofs.YthkjkmgbdahggaaGreatW.PrintLast Go.Proofs.YthkjkmgbdahggaaGreatW.PrintMore Go.Proofs.YthkjkmgbdahggaaGreat.SetMath
set_option linter.unusedVariables false
set_option linter.unusedSimpArgs false
def pend : List Int → Int
  | [] => 4294967295
  | f :: _ => f - 1
theorem pieces_cons (e : Int) (s : List Int) : pieces (e :: s) = (e, pend s) :: pieces s := by cases s <;> rfl
theorem pend_spec {e : Int} {s : List Int} (h : SAsc (e :: s)) (hr : ∀ x ∈ e :: s, 0 ≤ x ∧ x ≤ 4294967295) : e ≤ pend s ∧ pend s ≤ 4294967295 ∧ ∀ x ∈ s, pend s < x := by
  obtain ⟨h1, h2⟩ := List.pairwise_cons.1 h
  have he := hr e (by simp)
  cases s with
  | nil => simp [pend]; omega
  | cons f s =>
    have hf := h1 f (by simp)
    have hf2 := hr f (by simp)
    simp only [pend]
    refine ⟨by omega, by omega, fun x hx => ?_⟩
    rcases List.mem_cons.1 hx with q | q
    · omega
    · have := (List.pairwise_cons.1 h2).1 x q; omega
section
variable {l : List S34} {hop : Int}
def hopF (l : List S34) (hop : Int) (s : List Int) : List (Int × Int) := (pieces s).filter fun q => lead (l.map toRt) q.1 == hop
theorem hopF_yes {e : Int} {s : List Int} (h : lead (l.map toRt) e = hop) : hopF l hop (e :: s) = (e, pend s) :: hopF l hop s := by unfold hopF; rw [pieces_cons]; simp [h]
theorem hopF_no {e : Int} {s : List Int} (h : ¬ lead (l.map toRt) e = hop) : hopF l hop (e :: s) = hopF l hop s := by unfold hopF; rw [pieces_cons]; simp [h]
theorem spansS_l0 (hl : l.length < 1000000) (hx : ∀ w ∈ l, okI w.f0) : ∀ (s p : List Int) (f : List S73) (t : Int × Int), (p ++ s).length < 10000000 → f.length + s.length < 10000000 → SAsc s → (∀ e ∈ s, 0 ≤ e ∧ e ≤ 4294967295) → 0 ≤ t.2 → t.2 ≤ 4294967295 → (∀ e ∈ s, t.2 < e) →
    Ev (fun k => spec_l3Spans.l0 k l hop (p ++ s) (f ++ [ofP t]) (p.length : Int)) (f ++ (mrg t (hopF l hop s)).map ofP) := by
  intro s
  induction s with
  | nil =>
    intro p f t _ _ _ _ _ _ _
    refine Ev.succ ?_
    simp only [spec_l3Spans.l0]
    refine Ev.iteF (by simp) ?_
    simpa [hopF, pieces, mrg] using Ev.now (f ++ [ofP t])
  | cons e s ih =>
    intro p f t hlp hf hs hr t0 t1 ht
    have e1 : wrap64 ((p.length : Int) + 1) = ((p ++ [e]).length : Int) := by simp at hlp; rw [w64 (by omega) (by omega)]; simp
    obtain ⟨r0, r1⟩ := hr e (by simp)
    obtain ⟨n1, n2, n3⟩ := pend_spec hs hr
    obtain ⟨_, hs2⟩ := List.pairwise_cons.1 hs
    have hr2 : ∀ x ∈ s, 0 ≤ x ∧ x ≤ 4294967295 := fun x q => hr x (List.mem_cons_of_mem _ q)
    have hte := ht e (by simp)
    simp at hf
    have e3 : wrap64 (((f ++ [ofP t]).length : Int) - 1) = (f.length : Int) := by rw [w64 (by simp <;> omega) (by simp <;> omega)]; simp
    have rt : rd_T73 (f ++ [ofP t]) (f.length : Int) = ofP t := rdP f (ofP t) []
    have hlead := leadS_ev (l := l) (by omega) hx e
    have put : Ev (fun k => if (wrap64 (((f ++ [ofP t]).length : Int) - 1)) ≥ 0 then (if 0 ≤ (wrap64 (((f ++ [ofP t]).length : Int) - 1)) then (if (wrap64 (((f ++ [ofP t]).length : Int) - 1)) < ((f ++ [ofP t]).length : Int) then (if (wrap64 (((rd_T73 (f ++ [ofP t]) (wrap64 (((f ++ [ofP t]).length : Int) - 1))).f1) + 1)) = e then (spec_l3Spans.l0 k l hop (p ++ e :: s) ((f ++ [ofP t]).set ((wrap64 (((f ++ [ofP t]).length : Int) - 1)) : Int).toNat (⟨(rd_T73 (f ++ [ofP t]) (wrap64 (((f ++ [ofP t]).length : Int) - 1))).f0, pend s⟩ : S73)) ((p ++ [e]).length : Int)) else (if (f ++ [ofP t]).length < 8796093022208 then (spec_l3Spans.l0 k l hop (p ++ e :: s) ((f ++ [ofP t]) ++ [(⟨e, pend s⟩ : S73)]) ((p ++ [e]).length : Int)) else (none))) else (none)) else (none)) else (if (f ++ [ofP t]).length < 8796093022208 then (spec_l3Spans.l0 k l hop (p ++ e :: s) ((f ++ [ofP t]) ++ [(⟨e, pend s⟩ : S73)]) ((p ++ [e]).length : Int)) else (none))) (f ++ (mrg t ((e, pend s) :: hopF l hop s)).map ofP) := by
      simp only [e3, rt]
      refine Ev.iteT (by omega) (Ev.iteT (by omega) (Ev.iteT (by simp; omega) ?_))
      rw [show (ofP t).f1 = t.2 from rfl, show (ofP t).f0 = t.1 from rfl, w64 (x := t.2 + 1) (by omega) (by omega)]
      by_cases h : t.2 + 1 = e
      · have em : mrg t ((e, pend s) :: hopF l hop s) = mrg (t.1, pend s) (hopF l hop s) := by
          show (if e ≤ t.2 + 1 then mrg (t.1, max t.2 (pend s)) (hopF l hop s) else _) = _
          rw [if_pos (by omega), show max t.2 (pend s) = pend s from by omega]
        rw [em]
        refine Ev.iteT h ?_
        have e4 : (f ++ [ofP t]).set ((f.length : Int)).toNat (⟨t.1, pend s⟩ : S73) = f ++ [ofP (t.1, pend s)] := by simp [ofP]
        rw [e4]
        have := ih (p ++ [e]) f (t.1, pend s) (by simpa using hlp) (by omega) hs2 hr2 (by simp only; omega) n2 n3
        simpa using this
      · have em : mrg t ((e, pend s) :: hopF l hop s) = t :: mrg (e, pend s) (hopF l hop s) := by
          show (if e ≤ t.2 + 1 then _ else t :: mrg (e, pend s) (hopF l hop s)) = _
          rw [if_neg (by omega)]
        rw [em]
        refine Ev.iteF h (Ev.iteT (by simp; omega) ?_)
        have := ih (p ++ [e]) (f ++ [ofP t]) (e, pend s) (by simpa using hlp) (by simp; omega) hs2 hr2 (by simp only; omega) n2 n3
        simpa [ofP] using this
    refine Ev.succ ?_
    simp only [spec_l3Spans.l0]
    refine Ev.iteT (by simp; omega) (Ev.iteT (by omega) ?_)
    rw [rdI p e s, e1]
    refine Ev.bind hlead ?_
    by_cases h : lead (l.map toRt) e = hop
    · rw [hopF_yes h]
      refine Ev.iteT h ?_
      cases s with
      | nil => exact Ev.iteF (by simp) put
      | cons g s =>
        have rf : rd (p ++ e :: g :: s) ((p ++ [e]).length : Int) = g := by
          have := rdI (p ++ [e]) g s
          simpa using this
        have hg := hr g (by simp)
        refine Ev.iteT (by simp; omega) (Ev.iteT (by simp; omega) ?_)
        rw [rf, w64 (x := g - 1) (by omega) (by omega)]
        exact put
    · rw [hopF_no h]
      refine Ev.iteF h ?_
      have := ih (p ++ [e]) f t (by simpa using hlp) (by omega) hs2 hr2 t0 t1 (fun x q => ht x (List.mem_cons_of_mem _ q))
      simpa using this
theorem spansS_start (hl : l.length < 1000000) (hx : ∀ w ∈ l, okI w.f0) : ∀ (s p : List Int), (p ++ s).length < 10000000 → SAsc s → (∀ e ∈ s, 0 ≤ e ∧ e ≤ 4294967295) →
    Ev (fun k => spec_l3Spans.l0 k l hop (p ++ s) [] (p.length : Int)) ((merge (hopF l hop s)).map ofP) := by
  intro s
  induction s with
  | nil =>
    intro p _ _ _
    refine Ev.succ ?_
    simp only [spec_l3Spans.l0]
    refine Ev.iteF (by simp) ?_
    simpa [hopF, pieces, merge] using Ev.now ([] : List S73)
  | cons e s ih =>
    intro p hlp hs hr
    have e1 : wrap64 ((p.length : Int) + 1) = ((p ++ [e]).length : Int) := by simp at hlp; rw [w64 (by omega) (by omega)]; simp
    obtain ⟨r0, r1⟩ := hr e (by simp)
    obtain ⟨n1, n2, n3⟩ := pend_spec hs hr
    obtain ⟨_, hs2⟩ := List.pairwise_cons.1 hs
    have hr2 : ∀ x ∈ s, 0 ≤ x ∧ x ≤ 4294967295 := fun x q => hr x (List.mem_cons_of_mem _ q)
    have e0 : wrap64 ((([] : List S73).length : Int) - 1) = -1 := by rw [w64] <;> simp
    have hlead := leadS_ev (l := l) (by omega) hx e
    have hgo := spansS_l0 (hop := hop) hl hx s (p ++ [e]) [] (e, pend s) (by simpa using hlp) (by simp at hlp ⊢; omega) hs2 hr2 (by simp only; omega) n2 n3
    refine Ev.succ ?_
    simp only [spec_l3Spans.l0]
    refine Ev.iteT (by simp; omega) (Ev.iteT (by omega) ?_)
    rw [rdI p e s, e1, e0]
    refine Ev.bind hlead ?_
    by_cases h : lead (l.map toRt) e = hop
    · rw [hopF_yes h]
      refine Ev.iteT h ?_
      cases s with
      | nil =>
        refine Ev.iteF (by simp) (Ev.iteF (by omega) (Ev.iteT (by simp) ?_))
        simpa [merge, ofP, pend] using hgo
      | cons g s =>
        have rf : rd (p ++ e :: g :: s) ((p ++ [e]).length : Int) = g := by
          have := rdI (p ++ [e]) g s
          simpa using this
        have hg := hr g (by simp)
        refine Ev.iteT (by simp; omega) (Ev.iteT (by simp; omega) ?_)
        rw [rf, w64 (x := g - 1) (by omega) (by omega)]
        refine Ev.iteF (by omega) (Ev.iteT (by simp) ?_)
        simpa [merge, ofP, pend] using hgo
    · rw [hopF_no h]
      refine Ev.iteF h ?_
      have := ih (p ++ [e]) (by simpa using hlp) hs2 hr2
      simpa using this
end
theorem waysToS_ev {l : List S34} (hl : l.length < 8796093022) (hop : Int) : Ev (fun k => spec_WaysTo.f k l hop) (waysTo l hop) := by
  have hd := Classical.propDecidable (WaysOkP l)
  have ho := waysOkS_ev hl (b := decide (WaysOkP l)) (by simp)
  have no : ¬ (WaysOkP l ∧ -1 ≤ hop ∧ hop ≤ 99) → Ev (fun k => spec_WaysTo.j0 k l hop true) (waysTo l hop) := fun h => by
    unfold waysTo
    rw [if_neg h]
    refine Ev.succ ?_
    simp only [spec_WaysTo.j0]
    exact Ev.iteT (by simp) (Ev.now _)
  unfold spec_WaysTo.f
  refine Ev.bind ho ?_
  by_cases h : WaysOkP l
  · refine Ev.iteT (decide_eq_true h) (Ev.pre (l1In_eq _ _ _) ?_)
    by_cases h2 : -1 ≤ hop ∧ hop ≤ 99
    · rw [decide_eq_true h2]
      unfold waysTo
      rw [if_pos ⟨h, h2⟩]
      have h40 := h.2
      have hx : ∀ w ∈ l, okI w.f0 := fun w hw => (ordW_ok l _ h.1 w hw).1
      have hb := okB_rts hx
      obtain ⟨g1, g2, g3⟩ := toHop_good hb hop
      have hel := edges_len (l := l.map toRt)
      simp at hel
      have hlen : (toHop (l.map toRt) hop).length ≤ (edges (l.map toRt)).length := by
        unfold toHop
        have := List.length_filter_le (fun p : Int × Int => lead (l.map toRt) p.1 == hop) (pieces (edges (l.map toRt)))
        rw [pieces_len] at this
        exact this
      have hcl := canon_len (toHop (l.map toRt) hop)
      have hsp : Ev (fun k => spec_l3Spans.f k l hop) ((canon (toHop (l.map toRt) hop)).map ofP) := by
        unfold spec_l3Spans.f
        refine Ev.bind (edgesS_ev (by omega) hx) ?_
        have := spansS_start (hop := hop) (by omega) hx (edges (l.map toRt)) [] (by simp; omega) (edges_asc _) (fun e he => edges_range hb he)
        rw [canon_apart g2 g1]
        simpa [hopF, toHop] using this
      have hw := canon_within g1 g3
      have hcov := coverS_ev (l := (canon (toHop (l.map toRt) hop)).map ofP) (by intro x hxm; obtain ⟨y, hy, rfl⟩ := List.mem_map.1 hxm; exact hw y hy) (by simp; omega)
      rw [map_to_ofP] at hcov
      refine Ev.succ ?_
      simp only [spec_WaysTo.j0, Bool.not_true]
      refine Ev.iteF (by decide) (Ev.bind hsp (Ev.bind hcov (Ev.pre (room_eq _) ?_)))
      exact Ev.now _
    · rw [decide_eq_false h2]
      exact no (fun q => h2 q.2)
  · exact Ev.iteF (by simpa using h) (no (fun q => h q.1))
end Go.Proofs.YthkjkmgbdahggaaGreat.Sets
