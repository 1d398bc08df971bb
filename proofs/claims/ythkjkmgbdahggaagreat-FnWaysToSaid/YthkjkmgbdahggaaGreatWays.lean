/- What the printed functions of routes answer, in plain words: order of a table, where an address leads, the edges, the set of all addresses that lead to a hop, on both sides. On the condition that the tables are no longer than told. -/
import Derived.Test.YthkjkmgbdahggaaGreatSetsD
import Derived.Test.YthkjkmgbdahggaaGreatWaysMath
import Derived.Test.YthkjkmgbdahggaaGreatPYx13
import Derived.Test.YthkjkmgbdahggaaGreatPYx16
namespace Go.Proofs.YthkjkmgbdahggaaGreat.Sets
open Go.RowKit Go.Proofs.YthkjkmgbdahggaaGreat.PY Go.Proofs.YthkjkmgbdahggaaGreatW.PrintWords Go.Proofs.YthkjkmgbdahggaaGreatW.PrintLast Go.Proofs.YthkjkmgbdahggaaGreatW.PrintMore Go.Proofs.YthkjkmgbdahggaaGreat.SetMath
set_option linter.unusedVariables false
set_option linter.unusedSimpArgs false
def ofSpans (l : List (Int × Int)) : List S32 × Bool := if ((covers (canon l)).map ofB).length ≤ 64 then ((covers (canon l)).map ofB, true) else ([], false)
theorem limited_eq (l : List S32) : impl_limited.f l = some (if l.length ≤ 64 then (l, true) else ([], false)) := by
  unfold impl_limited.f
  by_cases h : l.length ≤ 64
  · rw [if_pos h, if_neg (by omega)]
  · rw [if_neg h, if_pos (by omega)]
theorem room_eq (l : List S32) : spec_l2Room.f l = some (if l.length ≤ 64 then (l, true) else ([], false)) := by
  unfold spec_l2Room.f
  by_cases h : l.length ≤ 64
  · rw [if_pos h, if_neg (by omega)]
  · rw [if_neg h, if_pos (by omega)]
theorem finish_ev {l : List (Int × Int)} (hl : l.length < 68719476736) (hg : SetMath.Good l) (hw : Within l) : Ev (fun k => (impl_set.f k (l.map ofS)).bind fun t => (impl_limited.f t).bind fun bt => some (bt.1, bt.2)) (ofSpans l) := by
  refine Ev.bind (set_ev hl hg hw) (Ev.pre (limited_eq _) ?_)
  exact Ev.now _
def ltB (a b : S32) : Prop := a.f0 < b.f0 ∨ a.f0 = b.f0 ∧ a.f1 < b.f1
def okW (w : S34) : Prop := okI w.f0 ∧ 0 ≤ w.f1 ∧ w.f1 ≤ 99
def ordW : Option S34 → List S34 → Prop
  | _, [] => True
  | none, w :: l => okW w ∧ ordW (some w) l
  | some u, w :: l => okW w ∧ ltB u.f0 w.f0 ∧ ordW (some w) l
theorem ordW_ok : ∀ (l : List S34) (u : Option S34), ordW u l → ∀ w ∈ l, okW w
  | [], _, _, _, h => by cases h
  | x :: l, none, h, w, hw => by
    rcases List.mem_cons.1 hw with e | e
    · subst e; exact h.1
    · exact ordW_ok l _ h.2 w e
  | x :: l, some u, h, w, hw => by
    rcases List.mem_cons.1 hw with e | e
    · subst e; exact h.1
    · exact ordW_ok l _ h.2.2 w e
theorem rdW (l : List S34) (x : S34) (r : List S34) : rd_T34 (l ++ x :: r) (l.length : Int) = x := by simp [rd_T34]
theorem rdW_last (l : List S34) (u x : S34) (r : List S34) (h : l.getLast? = some u) : rd_T34 (l ++ x :: r) ((l.length : Int) - 1) = u ∧ 0 < l.length := by
  obtain ⟨q, rfl⟩ := List.getLast?_eq_some_iff.1 h
  refine ⟨?_, by simp⟩
  rw [show (((q ++ [u]).length : Int) - 1) = (q.length : Int) from by simp, List.append_assoc]
  exact rdW q u (x :: r)
theorem compare_eq (a b : Int) : cmp_Compare_int.f a b = some (if a < b then -1 else if a > b then 1 else 0) := by
  unfold cmp_Compare_int.f cmp_isNaN_int.f
  simp only [Option.bind_some, bne_self_eq_false, Bool.false_eq_true, if_false]
  split
  · rfl
  · split <;> rfl
theorem or_ev (a b : Int) : Ev (fun k => cmp_Or_int.f k [a, b]) (if a = 0 then b else a) := by
  unfold cmp_Or_int.f
  have e1 : wrap64 (0 + 1) = 1 := by rw [w64 (by omega) (by omega)]; rfl
  have e2 : wrap64 (1 + 1) = 2 := by rw [w64 (by omega) (by omega)]; rfl
  have r0 : rd [a, b] 0 = a := rfl
  have r1 : rd [a, b] 1 = b := rfl
  refine Ev.succ ?_
  simp only [cmp_Or_int.l0]
  refine Ev.iteT (by simp) (Ev.iteT (by omega) (Ev.iteT (by simp) ?_))
  rw [r0, e1]
  by_cases h : a = 0
  · rw [if_pos h]
    refine Ev.iteT h (Ev.succ ?_)
    simp only [cmp_Or_int.l0]
    refine Ev.iteT (by simp) (Ev.iteT (by omega) (Ev.iteT (by simp) ?_))
    rw [r1, e2]
    by_cases h2 : b = 0
    · rw [h2]
      refine Ev.iteT rfl (Ev.succ ?_)
      simp only [cmp_Or_int.l0]
      exact Ev.iteF (by simp) (Ev.now _)
    · exact Ev.iteF h2 (Ev.now _)
  · rw [if_neg h]
    exact Ev.iteF h (Ev.now _)
theorem byBlock_ev (a b : S32) : ∃ c : Int, (c ≥ 0 ↔ ¬ ltB a b) ∧ Ev (fun k => impl_byBlock.f k a.f0 a.f1 b.f0 b.f1) c := by
  refine ⟨if (if a.f0 < b.f0 then (-1 : Int) else if a.f0 > b.f0 then 1 else 0) = 0 then (if a.f1 < b.f1 then (-1 : Int) else if a.f1 > b.f1 then 1 else 0) else (if a.f0 < b.f0 then (-1 : Int) else if a.f0 > b.f0 then 1 else 0), ?_, ?_⟩
  · unfold ltB
    rcases Int.lt_trichotomy a.f0 b.f0 with h | h | h
    · rw [if_pos h, if_neg (by decide)]; omega
    · rw [if_neg (by omega : ¬ a.f0 < b.f0), if_neg (by omega : ¬ a.f0 > b.f0), if_pos rfl]
      rcases Int.lt_trichotomy a.f1 b.f1 with h2 | h2 | h2
      · rw [if_pos h2]; omega
      · rw [if_neg (by omega : ¬ a.f1 < b.f1), if_neg (by omega : ¬ a.f1 > b.f1)]; omega
      · rw [if_neg (by omega : ¬ a.f1 < b.f1), if_pos h2]; omega
    · rw [if_neg (by omega : ¬ a.f0 < b.f0), if_pos h, if_neg (by decide)]; omega
  · unfold impl_byBlock.f
    exact Ev.pre (compare_eq _ _) (Ev.pre (compare_eq _ _) (Ev.bind (or_ev _ _) (Ev.now _)))
theorem waysOk_l0 : ∀ (s p : List S34) (n : Int) (b : Bool), n = ((p ++ s).length : Int) → (p ++ s).length < 8796093022 → (b = true ↔ ordW p.getLast? s ∧ (p ++ s).length ≤ 40) → Ev (fun k => impl_WaysOk.l0 k (p ++ s) (p ++ s) n (p.length : Int)) b := by
  intro s
  induction s with
  | nil =>
    intro p n b hn hl hb
    refine Ev.succ ?_
    simp only [impl_WaysOk.l0]
    refine Ev.iteF (by simp [hn]) ?_
    have : b = decide (((p ++ []).length : Int) ≤ 40) := by
      rw [Bool.eq_iff_iff, hb, decide_eq_true_eq]
      cases p.getLast? <;> simp [ordW] <;> omega
    rw [this]; exact Ev.now _
  | cons x s ih =>
    intro p n b hn hl hb
    have e1 : wrap64 ((p.length : Int) + 1) = ((p ++ [x]).length : Int) := by simp at hl; rw [w64 (by omega) (by omega)]; simp
    have e3 : wrap64 ((p.length : Int) - 1) = (p.length : Int) - 1 := by simp at hl; rw [w64 (by omega) (by omega)]
    have bad : (¬ (ordW p.getLast? (x :: s))) → b = false := fun h => by
      cases b with
      | false => rfl
      | true => exact absurd (hb.1 rfl).1 h
    refine Ev.succ ?_
    simp only [impl_WaysOk.l0]
    refine Ev.iteT (by simp [hn]; omega) (Ev.iteT (by omega) (Ev.iteT (by simp; omega) ?_))
    rw [rdW p x s, e1, e3]
    refine Ev.pre (blockOk_eq _ _) ?_
    by_cases h1 : okI x.f0
    · refine Ev.iteT (decide_eq_true h1) (Ev.pre (in_eq _ _ _) ?_)
      by_cases h2 : 0 ≤ x.f1 ∧ x.f1 ≤ 99
      · refine Ev.iteT (decide_eq_true h2) ?_
        have next : ordW p.getLast? (x :: s) ↔ (∀ u, p.getLast? = some u → ltB u.f0 x.f0) ∧ ordW (some x) s := by
          cases p.getLast? with
          | none => simp [ordW, okW, h1, h2]
          | some u => simp [ordW, okW, h1, h2]
        have hih : (∀ u, p.getLast? = some u → ltB u.f0 x.f0) → Ev (fun k => impl_WaysOk.l0 k (p ++ x :: s) (p ++ x :: s) n ((p ++ [x]).length : Int)) b := fun h => by
          have := ih (p ++ [x]) n b (by simpa using hn) (by simpa using hl) (by rw [hb, next]; simp only [List.getLast?_concat, List.append_assoc, List.singleton_append]; exact ⟨fun q => ⟨q.1.2, q.2⟩, fun q => ⟨⟨h, q.1⟩, q.2⟩⟩)
          simpa using this
        cases hp : p.getLast? with
        | none =>
          have : p = [] := List.getLast?_eq_none_iff.1 hp
          subst this
          exact Ev.iteF (by simp) (hih (by simp))
        | some u =>
          obtain ⟨ru, hpos⟩ := rdW_last p u x s hp
          refine Ev.iteT (by omega) (Ev.iteT (by omega) (Ev.iteT (by simp; omega) ?_))
          rw [ru]
          obtain ⟨c, hc, hce⟩ := byBlock_ev u.f0 x.f0
          refine Ev.bind hce ?_
          by_cases h3 : ltB u.f0 x.f0
          · exact Ev.iteF (fun h => hc.1 h h3) (hih (fun v hv => by rw [hp] at hv; injection hv with hv; rw [← hv]; exact h3))
          · refine Ev.iteT (hc.2 h3) ?_
            rw [bad (fun h => h3 ((next.1 h).1 u hp))]; exact Ev.now _
      · refine Ev.iteF (by simpa using h2) ?_
        rw [bad (fun h => h2 (ordW_ok _ _ h x (by simp)).2)]; exact Ev.now _
    · refine Ev.iteF (by simpa using h1) ?_
      rw [bad (fun h => h1 (ordW_ok _ _ h x (by simp)).1)]; exact Ev.now _
def WaysOkP (l : List S34) : Prop := ordW none l ∧ l.length ≤ 40
theorem waysOk_ev {l : List S34} (hl : l.length < 8796093022) {b : Bool} (hb : b = true ↔ WaysOkP l) : Ev (fun k => impl_WaysOk.f k l) b := by
  unfold impl_WaysOk.f
  simpa using waysOk_l0 l [] l.length b (by simp) (by simpa using hl) (by simpa [WaysOkP] using hb)
theorem cmpS_eq {a b : S32} (ha : okI a) (hb : okI b) : ∃ c : Int, (c ≥ 0 ↔ ¬ ltB a b) ∧ spec_l3Cmp.f a.f0 a.f1 b.f0 b.f1 = some c := by
  obtain ⟨a0, a1, a2, a3, _⟩ := ha
  obtain ⟨b0, b1, b2, b3, _⟩ := hb
  unfold spec_l3Cmp.f ltB
  rw [w64 (x := a.f1 - b.f1) (by omega) (by omega), w64 (x := a.f0 - b.f0) (by omega) (by omega)]
  by_cases h : a.f0 = b.f0
  · rw [if_pos h]; exact ⟨_, by omega, rfl⟩
  · rw [if_neg h]; exact ⟨_, by omega, rfl⟩
theorem waysOkS_l0 : ∀ (s p : List S34) (b : Bool), (∀ u, p.getLast? = some u → okI u.f0) → (p ++ s).length < 8796093022 → (b = true ↔ ordW p.getLast? s ∧ (p ++ s).length ≤ 40) → Ev (fun k => spec_WaysOk.l0 k (p ++ s) (p.length : Int)) b := by
  intro s
  induction s with
  | nil =>
    intro p b hu hl hb
    refine Ev.succ ?_
    simp only [spec_WaysOk.l0]
    refine Ev.iteF (by simp) ?_
    have : b = decide (((p ++ []).length : Int) ≤ 40) := by
      rw [Bool.eq_iff_iff, hb, decide_eq_true_eq]
      cases p.getLast? <;> simp [ordW] <;> omega
    rw [this]; exact Ev.now _
  | cons x s ih =>
    intro p b hu hl hb
    have e1 : wrap64 ((p.length : Int) + 1) = ((p ++ [x]).length : Int) := by simp at hl; rw [w64 (by omega) (by omega)]; simp
    have e3 : wrap64 ((p.length : Int) - 1) = (p.length : Int) - 1 := by simp at hl; rw [w64 (by omega) (by omega)]
    have bad : (¬ (ordW p.getLast? (x :: s))) → b = false := fun h => by
      cases b with
      | false => rfl
      | true => exact absurd (hb.1 rfl).1 h
    refine Ev.succ ?_
    simp only [spec_WaysOk.l0]
    refine Ev.iteT (by simp; omega) (Ev.iteT (by omega) ?_)
    rw [rdW p x s, e1, e3]
    refine Ev.bind (blockOkS_ev x.f0) ?_
    by_cases h1 : okI x.f0
    · refine Ev.iteT (decide_eq_true h1) (Ev.pre (l1In_eq _ _ _) ?_)
      by_cases h2 : 0 ≤ x.f1 ∧ x.f1 ≤ 99
      · refine Ev.iteT (decide_eq_true h2) ?_
        have next : ordW p.getLast? (x :: s) ↔ (∀ u, p.getLast? = some u → ltB u.f0 x.f0) ∧ ordW (some x) s := by
          cases p.getLast? with
          | none => simp [ordW, okW, h1, h2]
          | some u => simp [ordW, okW, h1, h2]
        have hih : (∀ u, p.getLast? = some u → ltB u.f0 x.f0) → Ev (fun k => spec_WaysOk.l0 k (p ++ x :: s) ((p ++ [x]).length : Int)) b := fun h => by
          have := ih (p ++ [x]) b (by intro u hq; simp at hq; subst hq; exact h1) (by simpa using hl) (by rw [hb, next]; simp only [List.getLast?_concat, List.append_assoc, List.singleton_append]; exact ⟨fun q => ⟨q.1.2, q.2⟩, fun q => ⟨⟨h, q.1⟩, q.2⟩⟩)
          simpa using this
        cases hp : p.getLast? with
        | none =>
          have : p = [] := List.getLast?_eq_none_iff.1 hp
          subst this
          exact Ev.iteF (by simp) (hih (by simp))
        | some u =>
          obtain ⟨ru, hpos⟩ := rdW_last p u x s hp
          refine Ev.iteT (by omega) (Ev.iteT (by omega) (Ev.iteT (by simp; omega) ?_))
          rw [ru]
          obtain ⟨c, hc, hce⟩ := cmpS_eq (hu u hp) h1
          refine Ev.pre hce ?_
          by_cases h3 : ltB u.f0 x.f0
          · exact Ev.iteF (fun h => hc.1 h h3) (hih (fun v hv => by rw [hp] at hv; injection hv with hv; rw [← hv]; exact h3))
          · refine Ev.iteT (hc.2 h3) ?_
            rw [bad (fun h => h3 ((next.1 h).1 u hp))]; exact Ev.now _
      · refine Ev.iteF (by simpa using h2) ?_
        rw [bad (fun h => h2 (ordW_ok _ _ h x (by simp)).2)]; exact Ev.now _
    · refine Ev.iteF (by simpa using h1) ?_
      rw [bad (fun h => h1 (ordW_ok _ _ h x (by simp)).1)]; exact Ev.now _
theorem waysOkS_ev {l : List S34} (hl : l.length < 8796093022) {b : Bool} (hb : b = true ↔ WaysOkP l) : Ev (fun k => spec_WaysOk.f k l) b := by
  unfold spec_WaysOk.f
  simpa using waysOkS_l0 l [] b (by simp) (by simpa using hl) (by simpa [WaysOkP] using hb)
def toRt (w : S34) : Rt := (toB w.f0, w.f1)
theorem leadI_l0 {a : Int} : ∀ (s p : List S34) (n b : Int) (st : Int × Int), n = ((p ++ s).length : Int) → (p ++ s).length < 8796093022 → (∀ w ∈ s, okI w.f0) → Ev (fun k => impl_lead.l0 k a (p ++ s) n (p.length : Int) b st.2 st.1) (leadF st (s.map toRt) a).1 := by
  intro s
  induction s with
  | nil => intro p n b st hn _ _; refine Ev.succ ?_; simp only [impl_lead.l0]; exact Ev.iteF (by simp [hn]) (Ev.now _)
  | cons x s ih =>
    intro p n b st hn hl hx
    have e1 : wrap64 ((p.length : Int) + 1) = ((p ++ [x]).length : Int) := by simp at hl; rw [w64 (by omega) (by omega)]; simp
    have hok := hx x (by simp)
    obtain ⟨_, _, q2, q3, _⟩ := id hok
    have ht : ((toRt x).1.2 : Int) = x.f0.f1 := by simp only [toRt, toB]; omega
    refine Ev.succ ?_
    simp only [impl_lead.l0]
    refine Ev.iteT (by simp [hn]; omega) (Ev.iteT (by omega) (Ev.iteT (by simp; omega) ?_))
    rw [rdW p x s, e1]
    refine Ev.pre (has_eq hok a) ?_
    have hih := fun (b : Int) (st : Int × Int) => ih (p ++ [x]) n b st (by simpa using hn) (by simpa using hl) (fun w hw => hx w (by simp [hw]))
    rw [List.map_cons, leadF_cons, ht]
    have hh : hasB (toRt x).1 a = decide (x.f0.f0 ≤ a ∧ a ≤ x.f0.f0 + sz x.f0.f1.toNat - 1) := rfl
    rw [hh]
    by_cases h1 : decide (x.f0.f0 ≤ a ∧ a ≤ x.f0.f0 + sz x.f0.f1.toNat - 1) = true
    · refine Ev.iteT h1 ?_
      by_cases h2 : x.f0.f1 > st.2
      · rw [if_pos ⟨h1, h2⟩]
        refine Ev.iteT h2 ?_
        have := hih x.f0.f0 (x.f1, x.f0.f1)
        simpa [toRt] using this
      · rw [if_neg (fun h => h2 h.2)]
        refine Ev.iteF h2 ?_
        simpa using hih b st
    · rw [if_neg (fun h => h1 h.1)]
      refine Ev.iteF h1 ?_
      simpa using hih b st
theorem leadI_ev {l : List S34} (hl : l.length < 8796093022) (hx : ∀ w ∈ l, okI w.f0) (a : Int) : Ev (fun k => impl_lead.f k l a) (lead (l.map toRt) a) := by
  unfold impl_lead.f
  simpa [lead] using leadI_l0 (a := a) l [] l.length 0 (-1, -1) (by simp) (by simpa using hl) hx
theorem leadS_l0 {a : Int} : ∀ (s p : List S34) (st : Int × Int), (p ++ s).length < 8796093022 → (∀ w ∈ s, okI w.f0) → Ev (fun k => spec_l3Lead.l0 k (p ++ s) a st.1 st.2 (p.length : Int)) (leadF st (s.map toRt) a).1 := by
  intro s
  induction s with
  | nil => intro p st _ _; refine Ev.succ ?_; simp only [spec_l3Lead.l0]; exact Ev.iteF (by simp) (Ev.now _)
  | cons x s ih =>
    intro p st hl hx
    have e1 : wrap64 ((p.length : Int) + 1) = ((p ++ [x]).length : Int) := by simp at hl; rw [w64 (by omega) (by omega)]; simp
    have hok := hx x (by simp)
    obtain ⟨_, _, q2, q3, _⟩ := id hok
    have ht : ((toRt x).1.2 : Int) = x.f0.f1 := by simp only [toRt, toB]; omega
    refine Ev.succ ?_
    simp only [spec_l3Lead.l0]
    refine Ev.iteT (by simp; omega) (Ev.iteT (by omega) ?_)
    rw [rdW p x s, e1]
    refine Ev.bind (lastS_ev hok) (Ev.pre (l1In_eq _ _ _) ?_)
    have hih := fun (st : Int × Int) => ih (p ++ [x]) st (by simpa using hl) (fun w hw => hx w (by simp [hw]))
    rw [List.map_cons, leadF_cons, ht]
    have hh : hasB (toRt x).1 a = decide (x.f0.f0 ≤ a ∧ a ≤ x.f0.f0 + sz x.f0.f1.toNat - 1) := rfl
    rw [hh]
    by_cases h1 : decide (x.f0.f0 ≤ a ∧ a ≤ x.f0.f0 + sz x.f0.f1.toNat - 1) = true
    · refine Ev.iteT h1 ?_
      by_cases h2 : x.f0.f1 > st.2
      · rw [if_pos ⟨h1, h2⟩]
        refine Ev.iteT h2 ?_
        have := hih (x.f1, x.f0.f1)
        simpa [toRt] using this
      · rw [if_neg (fun h => h2 h.2)]
        refine Ev.iteF h2 ?_
        simpa using hih st
    · rw [if_neg (fun h => h1 h.1)]
      refine Ev.iteF h1 ?_
      simpa using hih st
theorem leadS_ev {l : List S34} (hl : l.length < 8796093022) (hx : ∀ w ∈ l, okI w.f0) (a : Int) : Ev (fun k => spec_l3Lead.f k l a) (lead (l.map toRt) a) := by
  unfold spec_l3Lead.f
  simpa [lead] using leadS_l0 (a := a) l [] (-1, -1) (by simpa using hl) hx
theorem blocksOf_l1 {X : List (List S34)} {n i : Int} {r : List S32} : ∀ (s p : List S34) (acc : List S32) (m : Int), m = ((p ++ s).length : Int) → (p ++ s).length < 8796093022 → acc.length + s.length < 8796093022 →
    Ev (fun k => impl_blocksOf.l0 k (acc ++ s.map (·.f0)) X n (wrap64 (i + 1))) r → Ev (fun k => impl_blocksOf.l1 k acc X n i (p ++ s) m (p.length : Int)) r := by
  intro s
  induction s with
  | nil => intro p acc m hm _ _ h; refine Ev.succ ?_; simp only [impl_blocksOf.l1]; exact Ev.iteF (by simp [hm]) (by simpa using h)
  | cons x s ih =>
    intro p acc m hm hl ha h
    have e1 : wrap64 ((p.length : Int) + 1) = ((p ++ [x]).length : Int) := by simp at hl; rw [w64 (by omega) (by omega)]; simp
    simp at ha
    refine Ev.succ ?_
    simp only [impl_blocksOf.l1]
    refine Ev.iteT (by simp [hm]; omega) (Ev.iteT (by omega) (Ev.iteT (by simp; omega) (Ev.iteT (by omega) ?_)))
    rw [rdW p x s, e1]
    have := ih (p ++ [x]) (acc ++ [x.f0]) m (by simpa using hm) (by simpa using hl) (by simp; omega) (by simpa using h)
    simpa using this
theorem blocksOf_ev {l : List S34} (hl : l.length < 1000000) : Ev (fun k => impl_blocksOf.f k [l]) (l.map (·.f0)) := by
  unfold impl_blocksOf.f
  refine Ev.succ ?_
  simp only [impl_blocksOf.l0]
  refine Ev.iteT (by simp) (Ev.iteT (by omega) (Ev.iteT (by simp) ?_))
  have h0 : Ev (fun k => impl_blocksOf.l0 k ([] ++ l.map (·.f0)) [l] (([l] : List (List S34)).length : Int) (wrap64 (0 + 1))) (l.map (·.f0)) := by
    refine Ev.succ ?_
    simp only [impl_blocksOf.l0]
    exact Ev.iteF (by rw [w64 (by omega) (by omega)]; simp) (by simpa using Ev.now (l.map (·.f0)))
  have := blocksOf_l1 (X := [l]) (n := (([l] : List (List S34)).length : Int)) (i := 0) l [] [] l.length (by simp) (by simp; omega) (by simp; omega) h0
  have h2 : Ev (fun k => impl_blocksOf.l1 k [] [l] (([l] : List (List S34)).length : Int) 0 l (l.length : Int) 0) (l.map (·.f0)) := by simpa using this
  exact h2
def edgeI (b : S32) : List Int := edgeB (toB b)
theorem bounds_l0 : ∀ (s p : List S32) (acc : List Int) (n : Int), n = ((p ++ s).length : Int) → (p ++ s).length < 1000000 → acc.length + 2 * s.length < 10000000 → (∀ x ∈ s, okI x) →
    Ev (fun k => impl_bounds.l0 k acc (p ++ s) n (p.length : Int)) (SrtN.nrm (acc ++ s.flatMap edgeI)) := by
  intro s
  induction s with
  | nil => intro p acc n hn _ ha _; refine Ev.succ ?_; simp only [impl_bounds.l0]; exact Ev.iteF (by simp [hn]) (Ev.iteT (by omega) (by simpa using Ev.now (SrtN.nrm acc)))
  | cons x s ih =>
    intro p acc n hn hl ha hx
    have e1 : wrap64 ((p.length : Int) + 1) = ((p ++ [x]).length : Int) := by simp at hl; rw [w64 (by omega) (by omega)]; simp
    have hok := hx x (by simp)
    have hz := sz_pos x.f1.toNat
    have hz2 := sz_lt (b := x.f1.toNat)
    obtain ⟨q0, q1, _⟩ := id hok
    simp at ha
    refine Ev.succ ?_
    simp only [impl_bounds.l0]
    refine Ev.iteT (by simp [hn]; omega) (Ev.iteT (by omega) (Ev.iteT (by simp; omega) (Ev.iteT (by omega) ?_)))
    rw [rdB p x s, e1, block_last hok]
    simp only [Option.bind_some]
    have hih := fun (acc' : List Int) (h : acc'.length ≤ acc.length + 2) => ih (p ++ [x]) acc' n (by simpa using hn) (by simpa using hl) (by omega) (fun y hy => hx y (by simp [hy]))
    have he : edgeI x = x.f0 :: if x.f0 + sz x.f1.toNat - 1 < 4294967295 then [x.f0 + sz x.f1.toNat] else [] := rfl
    rw [List.flatMap_cons, he]
    by_cases h : x.f0 + sz x.f1.toNat - 1 < 4294967295
    · rw [if_pos h]
      refine Ev.iteT h (Ev.iteT (by simp; omega) ?_)
      rw [w64 (x := x.f0 + sz x.f1.toNat - 1 + 1) (by omega) (by omega), show x.f0 + sz x.f1.toNat - 1 + 1 = x.f0 + sz x.f1.toNat from by omega]
      have := hih (acc ++ [x.f0] ++ [x.f0 + sz x.f1.toNat]) (by simp)
      simpa using this
    · rw [if_neg h]
      refine Ev.iteF h ?_
      have := hih (acc ++ [x.f0]) (by simp)
      simpa using this
theorem bounds_ev {l : List S34} (hl : l.length < 1000000) (hx : ∀ w ∈ l, okI w.f0) : Ev (fun k => impl_bounds.f k (l.map (·.f0))) (edges (l.map toRt)) := by
  unfold impl_bounds.f
  have := bounds_l0 (l.map (·.f0)) [] [0] _ rfl (by simpa using hl) (by simp; omega) (by intro x hxm; obtain ⟨w, hw, rfl⟩ := List.mem_map.1 hxm; exact hx w hw)
  rw [nrm_edges (l := l.map toRt) (fun x => by
    simp only [List.mem_append, List.mem_singleton, List.mem_flatMap, List.mem_map]
    constructor
    · rintro (h | ⟨_, ⟨w, hw, rfl⟩, h⟩)
      · exact .inr h
      · exact .inl ⟨toRt w, ⟨w, hw, rfl⟩, h⟩
    · rintro (⟨_, ⟨w, hw, rfl⟩, h⟩ | h)
      · exact .inr ⟨w.f0, ⟨w, hw, rfl⟩, h⟩
      · exact .inl h)] at this
  simpa using this
theorem okB_rts {l : List S34} (hx : ∀ w ∈ l, okI w.f0) : ∀ w ∈ l.map toRt, okB w.1 := by
  intro w hw
  obtain ⟨v, hv, rfl⟩ := List.mem_map.1 hw
  exact ((okI_iff _).1 (hx v hv)).1
theorem rdI (l : List Int) (x : Int) (r : List Int) : rd (l ++ x :: r) (l.length : Int) = x := by simp [rd]
theorem waysTo_l0 {l : List S34} {hop : Int} (hl : l.length < 1000000) (hx : ∀ w ∈ l, okI w.f0) : ∀ (s p : List Int) (acc : List (Int × Int)) (n : Int), n = ((p ++ s).length : Int) → (p ++ s).length < 1000000 → acc.length + s.length < 1000000 → (∀ e ∈ s, 0 ≤ e ∧ e ≤ 4294967295) →
    SetMath.Good (acc ++ (pieces s).filter fun q => lead (l.map toRt) q.1 == hop) → Within (acc ++ (pieces s).filter fun q => lead (l.map toRt) q.1 == hop) →
    Ev (fun k => impl_WaysTo.l0 k l hop (acc.map ofS) (p ++ s) (p ++ s) n (p.length : Int)) (ofSpans (acc ++ (pieces s).filter fun q => lead (l.map toRt) q.1 == hop)) := by
  intro s
  induction s with
  | nil =>
    intro p acc n hn _ ha _ hg hw
    simp only [pieces, List.filter_nil, List.append_nil] at hg hw ⊢
    refine Ev.succ ?_
    simp only [impl_WaysTo.l0]
    refine Ev.iteF (by simp [hn]) ?_
    exact finish_ev (by omega) hg hw
  | cons e s ih =>
    intro p acc n hn hlp ha hr hg hw
    have e1 : wrap64 ((p.length : Int) + 1) = ((p ++ [e]).length : Int) := by simp at hlp; rw [w64 (by omega) (by omega)]; simp
    obtain ⟨r0, r1⟩ := hr e (by simp)
    simp at ha
    have hlead := leadI_ev (l := l) (by omega) hx e
    refine Ev.succ ?_
    simp only [impl_WaysTo.l0]
    refine Ev.iteT (by simp [hn]; omega) (Ev.iteT (by omega) (Ev.iteT (by simp; omega) ?_))
    rw [rdI p e s, e1]
    cases s with
    | nil =>
      refine Ev.iteF (by simp) (Ev.bind hlead ?_)
      by_cases h : lead (l.map toRt) e = hop
      · have ef : (pieces [e]).filter (fun q => lead (l.map toRt) q.1 == hop) = [(e, 4294967295)] := by simp [pieces, h]
        rw [ef] at hg hw ⊢
        refine Ev.iteT h (Ev.iteT (by simp; omega) ?_)
        have := ih (p ++ [e]) (acc ++ [(e, 4294967295)]) n (by simpa using hn) (by simpa using hlp) (by simp; omega) (by simp) (by simpa [pieces] using hg) (by simpa [pieces] using hw)
        simpa [pieces, ofS] using this
      · have ef : (pieces [e]).filter (fun q => lead (l.map toRt) q.1 == hop) = [] := by simp [pieces, h]
        rw [ef] at hg hw ⊢
        refine Ev.iteF h ?_
        have := ih (p ++ [e]) acc n (by simpa using hn) (by simpa using hlp) (by simp; omega) (by simp) (by simpa [pieces] using hg) (by simpa [pieces] using hw)
        simpa [pieces] using this
    | cons f s =>
      obtain ⟨f0, f1⟩ := hr f (by simp)
      have rf : rd (p ++ e :: f :: s) ((p ++ [e]).length : Int) = f := by
        have := rdI (p ++ [e]) f s
        simpa using this
      refine Ev.iteT (by simp; omega) (Ev.iteT (by simp; omega) (Ev.bind hlead ?_))
      rw [rf, w64 (x := f - 1) (by omega) (by omega)]
      by_cases h : lead (l.map toRt) e = hop
      · have ef : (pieces (e :: f :: s)).filter (fun q => lead (l.map toRt) q.1 == hop) = (e, f - 1) :: (pieces (f :: s)).filter (fun q => lead (l.map toRt) q.1 == hop) := by simp [pieces, h, List.filter_cons]
        rw [ef] at hg hw ⊢
        refine Ev.iteT h (Ev.iteT (by simp; omega) ?_)
        have := ih (p ++ [e]) (acc ++ [(e, f - 1)]) n (by simpa using hn) (by simpa using hlp) (by simp at ha ⊢; omega) (fun y hy => hr y (List.mem_cons_of_mem _ hy)) (by simpa using hg) (by simpa using hw)
        simpa [ofS] using this
      · have ef : (pieces (e :: f :: s)).filter (fun q => lead (l.map toRt) q.1 == hop) = (pieces (f :: s)).filter (fun q => lead (l.map toRt) q.1 == hop) := by simp [pieces, h, List.filter_cons]
        rw [ef] at hg hw ⊢
        refine Ev.iteF h ?_
        have := ih (p ++ [e]) acc n (by simpa using hn) (by simpa using hlp) (by simp at ha ⊢; omega) (fun y hy => hr y (List.mem_cons_of_mem _ hy)) hg hw
        simpa using this
noncomputable def waysTo (l : List S34) (hop : Int) : List S32 × Bool := @ite _ (WaysOkP l ∧ -1 ≤ hop ∧ hop ≤ 99) (Classical.propDecidable _) (ofSpans (toHop (l.map toRt) hop)) ([], false)
theorem edges_len {l : List Rt} : (edges l).length ≤ 2 * l.length + 1 := by
  have h : ∀ (l : List Rt) (s : List Int), (edgesF l s).length ≤ 2 * l.length + s.length := by
    intro l
    induction l with
    | nil => intro s; simp [edgesF]
    | cons w l ih =>
      intro s
      have h1 := ih ((edgeB w.1).foldl (fun s n => insN n s) s)
      have h2 : ((edgeB w.1).foldl (fun s n => insN n s) s).length ≤ s.length + 2 := by
        unfold edgeB
        split
        · simp only [List.foldl_cons, List.foldl_nil]
          have := insN_len w.1.1 s
          have := insN_len (w.1.1 + sz w.1.2) (insN w.1.1 s)
          omega
        · simp only [List.foldl_cons, List.foldl_nil]
          have := insN_len w.1.1 s
          omega
      show (edgesF l _).length ≤ _
      simp only [List.length_cons]; omega
  have := h l [0]
  unfold edges; simpa using this
theorem waysToI_ev {l : List S34} (hl : l.length < 8796093022) (hop : Int) : Ev (fun k => impl_WaysTo.f k l hop) (waysTo l hop) := by
  have hd := Classical.propDecidable (WaysOkP l)
  have ho := waysOk_ev hl (b := decide (WaysOkP l)) (by simp)
  have no : ¬ (WaysOkP l ∧ -1 ≤ hop ∧ hop ≤ 99) → Ev (fun k => impl_WaysTo.j0 k l hop true) (waysTo l hop) := fun h => by
    unfold waysTo
    rw [if_neg h]
    refine Ev.succ ?_
    simp only [impl_WaysTo.j0]
    exact Ev.iteT (by simp) (Ev.now _)
  unfold impl_WaysTo.f
  refine Ev.bind ho ?_
  by_cases h : WaysOkP l
  · refine Ev.iteT (decide_eq_true h) (Ev.pre (in_eq _ _ _) ?_)
    by_cases h2 : -1 ≤ hop ∧ hop ≤ 99
    · rw [decide_eq_true h2]
      unfold waysTo
      rw [if_pos ⟨h, h2⟩]
      have h40 := h.2
      have hx : ∀ w ∈ l, okI w.f0 := fun w hw => (ordW_ok l _ h.1 w hw).1
      have hb := okB_rts hx
      obtain ⟨g1, g2, g3⟩ := toHop_good hb hop
      have hel := edges_len (l := l.map toRt)
      simp at hel
      refine Ev.succ ?_
      simp only [impl_WaysTo.j0, Bool.not_true]
      refine Ev.iteF (by decide) (Ev.bind (blocksOf_ev (by omega)) (Ev.bind (bounds_ev (by omega) hx) ?_))
      have := waysTo_l0 (l := l) (hop := hop) (by omega) hx (edges (l.map toRt)) [] [] _ rfl (by simp; omega) (by simp; omega) (fun e he => edges_range hb he) (by simpa [toHop] using g1) (by simpa [toHop] using g3)
      simpa [toHop] using this
    · rw [decide_eq_false h2]
      exact no (fun q => h2 q.2)
  · exact Ev.iteF (by simpa using h) (no (fun q => h q.1))
theorem insS_num {x : Int} : ∀ (s p : List Int), (p ++ s).length < 10000000 → Ev (fun k => spec_l3Num.l0 k (p ++ s) x (p.length : Int)) (p ++ insN x s) := by
  intro s
  induction s with
  | nil =>
    intro p hl
    refine Ev.succ ?_
    simp only [spec_l3Num.l0]
    simp at hl
    refine Ev.iteF (by simp) ?_
    simp only [Option.bind_some, List.append_nil]
    refine Ev.iteT (by omega) (Ev.iteT (by omega) (Ev.iteT (by simp; omega) (Ev.iteT (by simp; omega) (Ev.iteT (by simp; omega) ?_))))
    simpa [insN] using Ev.now (p ++ [x])
  | cons e s ih =>
    intro p hl
    have e1 : wrap64 ((p.length : Int) + 1) = ((p ++ [e]).length : Int) := by simp at hl; rw [w64 (by omega) (by omega)]; simp
    refine Ev.succ ?_
    simp only [spec_l3Num.l0]
    refine Ev.iteT (by simp; omega) (Ev.iteT (by omega) ?_)
    rw [rdI p e s, e1]
    have hi : insN x (e :: s) = if e < x then e :: insN x s else if e = x then e :: s else x :: e :: s := rfl
    by_cases h : e < x
    · rw [show insN x (e :: s) = e :: insN x s from by rw [hi, if_pos h]]
      refine Ev.iteT h ?_
      have := ih (p ++ [e]) (by simpa using hl)
      simpa using this
    · refine Ev.iteF h ?_
      by_cases h2 : e = x
      · rw [show insN x (e :: s) = e :: s from by rw [hi, if_neg h, if_pos h2]]
        exact Ev.iteT h2 (Ev.now _)
      · rw [show insN x (e :: s) = x :: e :: s from by rw [hi, if_neg h, if_neg h2]]
        refine Ev.iteF h2 ?_
        simp at hl
        simp only [Option.bind_some]
        refine Ev.iteT (by simp; omega) (Ev.iteT (by simp; omega) (Ev.iteT (by simp; omega) (Ev.iteT (by simp; omega) ?_)))
        simpa using Ev.now (p ++ x :: e :: s)
theorem num_ev {l : List Int} (hl : l.length < 10000000) (x : Int) : Ev (fun k => spec_l3Num.f k l x) (insN x l) := by
  unfold spec_l3Num.f
  simpa using insS_num (x := x) l [] (by simpa using hl)
theorem edgesS_l0 : ∀ (s p : List S34) (acc : List Int), (p ++ s).length < 1000000 → acc.length + 2 * s.length < 5000000 → (∀ w ∈ s, okI w.f0) → Ev (fun k => spec_l3Edges.l0 k (p ++ s) acc (p.length : Int)) (edgesF (s.map toRt) acc) := by
  intro s
  induction s with
  | nil => intro p acc _ _ _; refine Ev.succ ?_; simp only [spec_l3Edges.l0]; exact Ev.iteF (by simp) (Ev.now _)
  | cons x s ih =>
    intro p acc hl ha hx
    have e1 : wrap64 ((p.length : Int) + 1) = ((p ++ [x]).length : Int) := by simp at hl; rw [w64 (by omega) (by omega)]; simp
    have hok := hx x (by simp)
    have hz := sz_pos x.f0.f1.toNat
    have hz2 := sz_lt (b := x.f0.f1.toNat)
    obtain ⟨q0, q1, _⟩ := id hok
    simp at ha
    have l1 := insN_len x.f0.f0 acc
    have l2 := insN_len (x.f0.f0 + sz x.f0.f1.toNat) (insN x.f0.f0 acc)
    refine Ev.succ ?_
    simp only [spec_l3Edges.l0]
    refine Ev.iteT (by simp; omega) (Ev.iteT (by omega) ?_)
    rw [rdW p x s, e1]
    have he : edgesF ((x :: s).map toRt) acc = edgesF (s.map toRt) ((edgeB (toRt x).1).foldl (fun s n => insN n s) acc) := rfl
    have he2 : edgeB (toRt x).1 = x.f0.f0 :: if x.f0.f0 + sz x.f0.f1.toNat - 1 < 4294967295 then [x.f0.f0 + sz x.f0.f1.toNat] else [] := rfl
    rw [he, he2]
    have hih := fun (acc' : List Int) (h : acc'.length ≤ acc.length + 2) => ih (p ++ [x]) acc' (by simpa using hl) (by omega) (fun y hy => hx y (by simp [hy]))
    refine Ev.bind (num_ev (by omega) _) (Ev.bind (lastS_ev hok) ?_)
    by_cases h : x.f0.f0 + sz x.f0.f1.toNat - 1 < 4294967295
    · rw [if_pos h]
      refine Ev.iteT h (Ev.bind (lastS_ev hok) ?_)
      rw [w64 (x := x.f0.f0 + sz x.f0.f1.toNat - 1 + 1) (by omega) (by omega), show x.f0.f0 + sz x.f0.f1.toNat - 1 + 1 = x.f0.f0 + sz x.f0.f1.toNat from by omega]
      refine Ev.bind (num_ev (by omega) _) ?_
      have := hih (insN (x.f0.f0 + sz x.f0.f1.toNat) (insN x.f0.f0 acc)) (by omega)
      simpa using this
    · rw [if_neg h]
      refine Ev.iteF h ?_
      have := hih (insN x.f0.f0 acc) (by omega)
      simpa using this
theorem edgesS_ev {l : List S34} (hl : l.length < 1000000) (hx : ∀ w ∈ l, okI w.f0) : Ev (fun k => spec_l3Edges.f k l [0]) (edges (l.map toRt)) := by
  unfold spec_l3Edges.f
  simpa [edges] using edgesS_l0 l [] [0] (by simpa using hl) (by simp; omega) hx
end Go.Proofs.YthkjkmgbdahggaaGreat.Sets
