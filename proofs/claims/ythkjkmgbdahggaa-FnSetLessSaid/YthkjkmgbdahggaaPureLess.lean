/- FnSetLess: the plain law. -/
import Derived.Test.YthkjkmgbdahggaaLessB
import Derived.Test.YthkjkmgbdahggaaPLx16
namespace Go.Proofs.Ythkjkmgbdahggaa.Sets
open Go.RowKit Go.Proofs.Ythkjkmgbdahggaa.PL Go.Proofs.YthkjkmgbdahggaaW.PrintWords Go.Proofs.YthkjkmgbdahggaaW.PrintLast Go.Proofs.YthkjkmgbdahggaaW.PrintMore Go.Proofs.Ythkjkmgbdahggaa.SetMath
set_option linter.unusedVariables false
set_option linter.unusedSimpArgs false
theorem drawBoth_ev {l : List Int} (hb : Bytes l) : ∃ a b, a.length ≤ 66 ∧ b.length ≤ 66 ∧ Ev (fun k => spec_DrawSetLess.f k l) (a, b) := by
  obtain ⟨l', hb', hl', ho⟩ := open_eq hb
  obtain ⟨a, s, a1, s1, s2, ha⟩ := l12AnySet_ev hb' (by omega) (Int.le_refl 0) (by omega)
  obtain ⟨b, s', b1, s3, s4, hbv⟩ := l12AnySet_ev hb' (by omega) (show 0 ≤ s by omega) (by omega)
  refine ⟨a, b, a1, b1, ?_⟩
  unfold spec_DrawSetLess.f spec_DrawSetBoth.f
  exact Ev.bind (a := (a, b)) (Ev.pre ho (Ev.bind ha (Ev.bind hbv (Ev.now _)))) (Ev.now _)
theorem ofSpans_ok {l : List (Int × Int)} (hg : SetMath.Good l) (hw : Within l) (h : (ofSpans l).2 = true) : SetOk (ofSpans l).1 ∧ ∀ p, memS (spansOf (ofSpans l).1) p ↔ memS l p := by
  unfold ofSpans at h ⊢
  split at h
  · rename_i h64
    rw [if_pos h64]
    have hsp : spansOf ((covers (canon l)).map ofB) = (covers (canon l)).map spanOf := by unfold spansOf; rw [map_to_ofB]
    refine ⟨⟨h64, ?_, ?_⟩, ?_⟩
    · intro x hx
      obtain ⟨c, hcm, rfl⟩ := List.mem_map.1 hx
      exact okI_ofB (covers_ok (canon_within hg hw) c hcm)
    · show (covers (canon (spansOf ((covers (canon l)).map ofB)))).map ofB = _
      rw [hsp, canon_covers (canon_spec hg).1]
    · intro p
      show memS (spansOf ((covers (canon l)).map ofB)) p ↔ _
      rw [hsp, covers_mem, (canon_spec hg).2]
  · cases h
theorem ofSpans_nil : ofSpans [] = ([], true) := by
  have e : covers (canon []) = [] := by simp [canon, isort, merge, covers]
  unfold ofSpans; rw [e]; simp
theorem canon_mem (l : List S40) (p : Int) : memS (canon (spansOf l)) p ↔ memS (spansOf l) p := (canon_spec (spansOf_good l)).2 p
theorem FnSetLess : laws_FnSetLess.Pure := by
  intro l0 l1 _ _ hwf0 _ _ hwf1
  have hb0 : Bytes l0 := by
    intro x hx
    have := hwf0 x hx
    simp [Lit.wf, show IntKind.u8.min = 0 from rfl, show IntKind.u8.max = 255 from rfl] at this
    omega
  have hb1 : Bytes l1 := by
    intro x hx
    have := hwf1 x hx
    simp [Lit.wf, show IntKind.u8.min = 0 from rfl, show IntKind.u8.max = 255 from rfl] at this
    omega
  refine Ev.rounds (r := true) ?_
  have big : Ev (fun k => laws_FnSetLess.j0 k l0 l1 true) true := by
    refine Ev.succ ?_
    simp only [laws_FnSetLess.j0]
    exact Ev.iteT (by simp) (Ev.now _)
  unfold laws_FnSetLess.f
  by_cases hl : (l0.length : Int) > 1048576
  · exact Ev.iteT hl big
  refine Ev.iteF hl ?_
  by_cases hl2 : (l1.length : Int) > 1048576
  · rw [decide_eq_true hl2]; exact big
  rw [decide_eq_false hl2]
  refine Ev.succ ?_
  simp only [laws_FnSetLess.j0]
  refine Ev.iteF (by decide) ?_
  obtain ⟨a, b, ha, hb, hd⟩ := drawBoth_ev hb0
  obtain ⟨z, at_, hz, hd2⟩ := drawHas_ev hb1
  have h1 := lessI_ev a b
  have h2 := lessS_ev (a := a) (b := b) (by omega) (by omega)
  have hlen : (setLess a b).1.length ≤ 64 := by
    unfold setLess ofSpans
    split
    · split
      · assumption
      · simp
    · simp
  have hov := ov_ev (s := (setLess a b).1) (t := (setLess a b).1) (by omega)
  refine Ev.bind hd (Ev.bind h1 (Ev.bind h2 (Ev.iteF (by simp) (Ev.bind hov (Ev.iteT (by simp) (Ev.succ ?_))))))
  simp only [laws_FnSetLess.j1]
  by_cases hok : (setLess a b).2 = true
  · refine Ev.iteF (by simp [hok]) ?_
    have hab : SetOk a ∧ SetOk b := by
      by_cases h : SetOk a ∧ SetOk b
      · exact h
      · unfold setLess at hok; rw [if_neg h] at hok; cases hok
    obtain ⟨f1, f2, f3⟩ := less_facts hab.1 hab.2
    have e : setLess a b = ofSpans (less (canon (spansOf a)) (canon (spansOf b))) := by unfold setLess; rw [if_pos hab]
    have hx := ofSpans_ok f1 f2 (by rw [← e]; exact hok)
    rw [← e] at hx
    have cB := (canon_spec (spansOf_good b)).1
    have hmem : ∀ p, memS (spansOf (setLess a b).1) p ↔ memS (spansOf a) p ∧ ¬ memS (spansOf b) p := fun p => by rw [hx.2, less_mem cB, canon_mem, canon_mem]
    have eB : setBoth (setLess a b).1 b = ([], true) := by
      unfold setBoth
      rw [if_pos ⟨hx.1, hab.2⟩, good_nil (both_good _ _) (fun p hp => by rw [both_mem, hmem] at hp; exact hp.1.2 hp.2), ofSpans_nil]
    have eS : setLess a a = ([], true) := by
      unfold setLess
      rw [if_pos ⟨hab.1, hab.1⟩, good_nil (less_good _ _) (fun p hp => by rw [less_mem (canon_spec (spansOf_good a)).1] at hp; exact hp.2 hp.1), ofSpans_nil]
    have hB := bothI_ev (setLess a b).1 b
    have hS := lessI_ev a a
    rw [eB] at hB
    rw [eS] at hS
    have hA := Classical.propDecidable (memS (spansOf a) at_)
    have hBd := Classical.propDecidable (memS (spansOf b) at_)
    have ea : decide (memS (spansOf a) at_) = true ↔ SetOk a ∧ memS (spansOf a) at_ := by simp [hab.1]
    have eb : decide (memS (spansOf b) at_) = true ↔ SetOk b ∧ memS (spansOf b) at_ := by simp [hab.2]
    have ex : (decide (memS (spansOf a) at_) && !decide (memS (spansOf b) at_)) = true ↔ SetOk (setLess a b).1 ∧ memS (spansOf (setLess a b).1) at_ := by rw [hmem]; simp [hx.1]
    have last : Ev (fun k => (if ((([], true) : List S40 × Bool).2 = true) then (if (((([], true) : List S40 × Bool).1).length : Int) = 0 then (if ((([], true) : List S40 × Bool).2) = true then (some (((([], true) : List S40 × Bool).1.length : Int) == 0)) else (some false)) else (some false)) else (if ((([], true) : List S40 × Bool).2) = true then (some (((([], true) : List S40 × Bool).1.length : Int) == 0)) else (some false)))) true := Ev.now true
    refine Ev.bind hd2 (Ev.bind hB (Ev.bind hS (Ev.bind (setHas_ev _ _ ex) (Ev.bind (setHas_ev _ _ ea) ?_))))
    by_cases hma : memS (spansOf a) at_
    · refine Ev.iteT (decide_eq_true hma) (Ev.bind (setHas_ev _ _ eb) (Ev.iteT (by simp [hma]) last))
    · refine Ev.iteF (by simpa using hma) (Ev.iteT (by simp [hma]) last)
  · refine Ev.iteT (by simp [hok]) (Ev.iteT (by simp) (Ev.bind hov ?_))
    simpa using Ev.now true
end Go.Proofs.Ythkjkmgbdahggaa.Sets
