/- FnWaysTo: the plain law. -/
import Derived.Test.YthkjkmgbdahggaaGreatDrawWays
import Derived.Test.YthkjkmgbdahggaaGreatPYx19
namespace Go.Proofs.YthkjkmgbdahggaaGreat.Sets
open Go.RowKit Go.Proofs.YthkjkmgbdahggaaGreat.PY Go.Proofs.YthkjkmgbdahggaaGreatW.PrintWords Go.Proofs.YthkjkmgbdahggaaGreatW.PrintLast Go.Proofs.YthkjkmgbdahggaaGreatW.PrintMore Go.Proofs.YthkjkmgbdahggaaGreat.SetMath
set_option linter.unusedVariables false
set_option linter.unusedSimpArgs false
theorem ofSpans_ok {l : List (Int × Int)} (hg : SetMath.Good l) (hw : Within l) (h : (ofSpans l).2 = true) : SetOk (ofSpans l).1 ∧ (∀ p, memS (spansOf (ofSpans l).1) p ↔ memS l p) ∧ total (spansOf (ofSpans l).1) = total (canon l) := by
  unfold ofSpans at h ⊢
  split at h
  · rename_i h64
    rw [if_pos h64]
    have hsp : spansOf ((covers (canon l)).map ofB) = (covers (canon l)).map spanOf := by unfold spansOf; rw [map_to_ofB]
    refine ⟨⟨h64, ?_, ?_⟩, ?_, ?_⟩
    · intro x hx
      obtain ⟨c, hcm, rfl⟩ := List.mem_map.1 hx
      exact okI_ofB (covers_ok (canon_within hg hw) c hcm)
    · show (covers (canon (spansOf ((covers (canon l)).map ofB)))).map ofB = _
      rw [hsp, canon_covers (canon_spec hg).1]
    · intro p
      show memS (spansOf ((covers (canon l)).map ofB)) p ↔ _
      rw [hsp, covers_mem, (canon_spec hg).2]
    · show total (spansOf ((covers (canon l)).map ofB)) = _
      rw [hsp, covers_total (canon_spec hg).1.2]
  · cases h
noncomputable def sizeOf (l : List S34) (k : Int) : Int := if SetOk (waysTo l k).1 then total (spansOf (waysTo l k).1) else 0
theorem total_nonneg {l : List S32} : 0 ≤ total (spansOf l) ∧ total (spansOf l) ≤ 4294967296 * l.length := by
  induction l with
  | nil => simp [spansOf, total]
  | cons x l ih =>
    have hz := sz_pos x.f1.toNat
    have hz2 := sz_lt (b := x.f1.toNat)
    have e5 : total (spansOf (x :: l)) = sz x.f1.toNat + total (spansOf l) := by simp only [spansOf, List.map_cons, total_cons, spanOf, toB]; omega
    rw [e5]
    simp only [List.length_cons]
    omega
theorem waysTo_len2 (l : List S34) (hop : Int) : (waysTo l hop).1.length ≤ 64 := by
  unfold waysTo ofSpans
  split
  · split
    · assumption
    · simp
  · simp
theorem sizeOf_range (l : List S34) (k : Int) : 0 ≤ sizeOf l k ∧ sizeOf l k ≤ 274877906944 := by
  unfold sizeOf
  have h1 := total_nonneg (l := (waysTo l k).1)
  have h2 := waysTo_len2 l k
  split <;> omega
theorem waysTo_yes {l : List S34} {k : Int} (h : (waysTo l k).2 = true) : WaysOkP l ∧ (-1 ≤ k ∧ k ≤ 99) ∧ SetOk (waysTo l k).1 ∧ (∀ p, memS (spansOf (waysTo l k).1) p ↔ (0 ≤ p ∧ p ≤ 4294967295) ∧ lead (l.map toRt) p = k) ∧ sizeOf l k = total (toHop (l.map toRt) k) := by
  have hc : WaysOkP l ∧ -1 ≤ k ∧ k ≤ 99 := by
    unfold waysTo at h
    split at h
    · assumption
    · cases h
  have hx : ∀ w ∈ l, okI w.f0 := fun w hw => (ordW_ok l _ hc.1.1 w hw).1
  have hb := okB_rts hx
  obtain ⟨g1, g2, g3⟩ := toHop_good hb k
  have e : waysTo l k = ofSpans (toHop (l.map toRt) k) := by unfold waysTo; rw [if_pos hc]
  have ho := ofSpans_ok g1 g3 (by rw [← e]; exact h)
  rw [← e] at ho
  refine ⟨hc.1, hc.2, ho.1, fun p => by rw [ho.2.1, toHop_mem hb], ?_⟩
  unfold sizeOf
  rw [if_pos ho.1, ho.2.2, canon_total g2 g1]
section
variable {l : List S34} {hop a sum : Int}
theorem lawW_end {X : List S32} (hl : l.length < 100) (hW : WaysOkP l) (hX : SetOk X) (hm : ∀ p, memS (spansOf X) p ↔ (0 ≤ p ∧ p ≤ 4294967295) ∧ lead (l.map toRt) p = hop) (x14 : Bool) (hs : x14 = true → sum = 4294967296) :
    Ev (fun k => (impl_SetOk.f k X).bind fun t632 => (if t632 = true then ((impl_SetHas.f k X a).bind fun t633 => (if a ≥ 0 then (if a ≤ 4294967295 then ((impl_WaysLead.f k l a).bind fun t634 => (if (t633 == (t634 == hop)) = true then (if x14 = true then (some (sum == 4294967296)) else (some true)) else (some false))) else (if (t633 == false) = true then (if x14 = true then (some (sum == 4294967296)) else (some true)) else (some false))) else (if (t633 == false) = true then (if x14 = true then (some (sum == 4294967296)) else (some true)) else (some false)))) else (some false))) true := by
  have hd := Classical.propDecidable (memS (spansOf X) a)
  have h1 := setOk_ev X
  rw [decide_eq_true hX] at h1
  have h2 := setHas_ev X a (d := decide (memS (spansOf X) a)) (by simp [hX])
  have fin : Ev (fun _ => if x14 = true then (some (sum == 4294967296)) else (some true)) true := by
    by_cases h : x14 = true
    · refine Ev.iteT h ?_
      rw [hs h]; exact Ev.now _
    · exact Ev.iteF h (Ev.now _)
  refine Ev.bind h1 (Ev.iteT rfl (Ev.bind h2 ?_))
  by_cases h0 : a ≥ 0
  · refine Ev.iteT h0 ?_
    by_cases h3 : a ≤ 4294967295
    · refine Ev.iteT h3 ?_
      have hx : ∀ w ∈ l, okI w.f0 := fun w hw => (ordW_ok l _ hW.1 w hw).1
      have hlead : Ev (fun k => impl_WaysLead.f k l a) (lead (l.map toRt) a) := by
        unfold impl_WaysLead.f
        refine Ev.bind (waysOk_ev (l := l) (by omega) (b := true) (by simp [hW])) (Ev.iteT rfl (Ev.pre (isAddr_eq a) (Ev.iteT (decide_eq_true ⟨h0, h3⟩) (Ev.bind (leadI_ev (by omega) hx a) (Ev.now _)))))
      refine Ev.bind hlead (Ev.iteT ?_ fin)
      have := hm a
      by_cases hh : lead (l.map toRt) a = hop
      · rw [decide_eq_true (this.2 ⟨⟨h0, h3⟩, hh⟩), hh]; simp
      · rw [decide_eq_false (fun q => hh (this.1 q).2)]; simp [hh]
    · refine Ev.iteF h3 (Ev.iteT ?_ fin)
      rw [decide_eq_false (fun q => h3 ((hm a).1 q).1.2)]; rfl
  · refine Ev.iteF h0 (Ev.iteT ?_ fin)
    rw [decide_eq_false (fun q => h0 ((hm a).1 q).1.1)]; rfl
theorem lawW_l1 {X : List S32} (hl : l.length < 100) (hW : WaysOkP l) (hX : SetOk X) (hm : ∀ p, memS (spansOf X) p ↔ (0 ≤ p ∧ p ≤ 4294967295) ∧ lead (l.map toRt) p = hop) : ∀ (s p : List S34) (x14 : Bool), l = p ++ s → (x14 = true → (∀ w ∈ s, w.f1 ≤ 2) → sum = 4294967296) →
    Ev (fun k => laws_FnWaysTo.l1 k l hop X a sum x14 (p.length : Int)) true := by
  intro s
  induction s with
  | nil =>
    intro p x14 e hs
    refine Ev.succ ?_
    simp only [laws_FnWaysTo.l1]
    exact Ev.iteF (by rw [e]; simp) (lawW_end hl hW hX hm x14 (fun h => hs h (by simp)))
  | cons x s ih =>
    intro p x14 e hs
    have el : l.length = p.length + (s.length + 1) := by rw [e]; simp
    have e1 : wrap64 ((p.length : Int) + 1) = ((p ++ [x]).length : Int) := by rw [w64 (by omega) (by omega)]; simp
    have rx : rd_T34 l (p.length : Int) = x := by rw [e]; exact rdW p x s
    refine Ev.succ ?_
    simp only [laws_FnWaysTo.l1]
    rw [rx, e1]
    refine Ev.iteT (by omega) ?_
    by_cases h : x14 = true
    · refine Ev.iteT h (Ev.iteT (by omega) ?_)
      exact ih (p ++ [x]) (decide (x.f1 ≤ 2)) (by rw [e]; simp) (fun h1 h2 => hs h (fun w hw => by
        rcases List.mem_cons.1 hw with q | q
        · subst q; exact of_decide_eq_true h1
        · exact h2 w q))
    · refine Ev.iteF h ?_
      exact ih (p ++ [x]) false (by rw [e]; simp) (fun h1 => by cases h1)
end
theorem FnWaysTo : laws_FnWaysTo.Pure := by
  intro l0 l1 _ _ hwf0 _ _ hwf1
  have hb0 : Bytes l0 := by
    intro x hx
    have := hwf0 x hx
    simp [Lit.wf, show IntKind.u8.min = 0 from rfl, show IntKind.u8.max = 255 from rfl] at this
    omega
  have hb1 : Bytes l1 := by
    intro x hx
    have := hwf1 x hx
    simp [Lit.wf, show IntKind.u8.min = 0 from rfl, show IntKind.u8.max = 255 from rfl] at this
    omega
  refine Ev.rounds (r := true) ?_
  have big : Ev (fun k => laws_FnWaysTo.j0 k l0 l1 true) true := by
    refine Ev.succ ?_
    simp only [laws_FnWaysTo.j0]
    exact Ev.iteT (by simp) (Ev.now _)
  unfold laws_FnWaysTo.f
  by_cases hl : (l0.length : Int) > 1048576
  · exact Ev.iteT hl big
  refine Ev.iteF hl ?_
  by_cases hl2 : (l1.length : Int) > 1048576
  · rw [decide_eq_true hl2]; exact big
  rw [decide_eq_false hl2]
  refine Ev.succ ?_
  simp only [laws_FnWaysTo.j0]
  refine Ev.iteF (by decide) ?_
  obtain ⟨L, hop, hL, hd⟩ := drawWaysTo_ev hb0
  obtain ⟨L2, a, hd2⟩ := drawWaysLead_ev hb1
  have hI := fun k => waysToI_ev (l := L) (by omega) k
  have hS := waysToS_ev (l := L) (by omega) hop
  have hlen := waysTo_len2 L hop
  have hov := ov_ev (s := (waysTo L hop).1) (t := (waysTo L hop).1) (by omega)
  rw [decide_eq_true rfl] at hov
  refine Ev.bind hd (Ev.bind (hI hop) (Ev.bind hS (Ev.iteF (by simp) (Ev.bind hov (Ev.iteT rfl (Ev.succ ?_))))))
  simp only [laws_FnWaysTo.j1]
  by_cases hok : (waysTo L hop).2 = true
  · refine Ev.iteF (by simp [hok]) (Ev.bind hd2 ?_)
    obtain ⟨hW, hh, hX, hm, _⟩ := waysTo_yes hok
    have hx : ∀ w ∈ L, okI w.f0 := fun w hw => (ordW_ok L _ hW.1 w hw).1
    have hsz : ∀ k, Ev (fun n => impl_SetSize.f n (waysTo L k).1) (sizeOf L k) := fun k => setSize_ev _
    have r0 := sizeOf_range L (-1)
    have r1 := sizeOf_range L 0
    have r2 := sizeOf_range L 1
    have r3 := sizeOf_range L 2
    have step : ∀ (k acc : Int) (x14 : Bool), k ≤ 2 → -1 ≤ k → 0 ≤ acc → acc ≤ 2000000000000 → Ev (fun n => laws_FnWaysTo.l0 n L hop (waysTo L hop).1 a (acc + sizeOf L k) (x14 && (waysTo L k).2) (k + 1)) true → Ev (fun n => laws_FnWaysTo.l0 n L hop (waysTo L hop).1 a acc x14 k) true := by
      intro k acc x14 h1 h2 h3 h4 hnext
      have rk := sizeOf_range L k
      refine Ev.succ ?_
      simp only [laws_FnWaysTo.l0]
      rw [w64 (x := k + 1) (by omega) (by omega)]
      refine Ev.iteT h1 (Ev.bind (hI k) ?_)
      by_cases hx14 : x14 = true
      · refine Ev.iteT hx14 (Ev.bind (hsz k) ?_)
        rw [w64 (x := acc + sizeOf L k) (by omega) (by omega)]
        rw [hx14, Bool.true_and] at hnext
        exact hnext
      · refine Ev.iteF hx14 (Ev.bind (hsz k) ?_)
        rw [w64 (x := acc + sizeOf L k) (by omega) (by omega)]
        have : x14 = false := by simpa using hx14
        rw [this, Bool.false_and] at hnext
        exact hnext
    refine step (-1) 0 true (by omega) (by omega) (by omega) (by omega) ?_
    refine step (-1 + 1) _ _ (by omega) (by omega) (by omega) (by omega) ?_
    refine step (-1 + 1 + 1) _ _ (by omega) (by omega) (by simp; omega) (by simp; omega) ?_
    refine step (-1 + 1 + 1 + 1) _ _ (by omega) (by omega) (by simp; omega) (by simp; omega) ?_
    refine Ev.succ ?_
    simp only [laws_FnWaysTo.l0]
    refine Ev.iteF (by omega) ?_
    have := lawW_l1 (l := L) (hop := hop) (a := a) (sum := 0 + sizeOf L (-1) + sizeOf L (-1 + 1) + sizeOf L (-1 + 1 + 1) + sizeOf L (-1 + 1 + 1 + 1)) (by omega) hW hX hm L [] (true && (waysTo L (-1)).2 && (waysTo L (-1 + 1)).2 && (waysTo L (-1 + 1 + 1)).2 && (waysTo L (-1 + 1 + 1 + 1)).2) rfl (fun h1 h2 => by
      simp only [Bool.and_eq_true, true_and] at h1
      obtain ⟨⟨⟨f0, f1⟩, f2⟩, f3⟩ := h1
      have t0 := (waysTo_yes f0).2.2.2.2
      have t1 := (waysTo_yes f1).2.2.2.2
      have t2 := (waysTo_yes f2).2.2.2.2
      have t3 := (waysTo_yes f3).2.2.2.2
      rw [t0, t1, t2, t3]
      have := toHop_total (okB_rts hx) (fun w hw => by
        obtain ⟨v, hv, rfl⟩ := List.mem_map.1 hw
        have h5 := (ordW_ok L _ hW.1 v hv).2
        exact ⟨by simp only [toRt]; omega, by simp only [toRt]; exact h2 v hv⟩)
      simp only [show (-1 : Int) + 1 = 0 from rfl, show (0 : Int) + 1 = 1 from rfl, show (1 : Int) + 1 = 2 from rfl]
      omega)
    simpa using this
  · refine Ev.iteT (by simp [hok]) (Ev.iteT (by simp) (Ev.bind hov (Ev.now _)))
end Go.Proofs.YthkjkmgbdahggaaGreat.Sets
