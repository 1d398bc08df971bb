/- FnSetSpan: the plain law. -/
import Derived.Test.YthkjkmgbdahggaaDraw
import Derived.Test.YthkjkmgbdahggaaPAx9
namespace Go.Proofs.Ythkjkmgbdahggaa.Sets
open Go.RowKit Go.Proofs.Ythkjkmgbdahggaa.PA Go.Proofs.YthkjkmgbdahggaaW.PrintWords Go.Proofs.YthkjkmgbdahggaaW.PrintLast Go.Proofs.YthkjkmgbdahggaaW.PrintMore Go.Proofs.Ythkjkmgbdahggaa.SetMath
set_option linter.unusedVariables false
set_option linter.unusedSimpArgs false

/-- What the span of two addresses is, on both sides. -/
def spanB (a b : Int) : List S40 := if 0 ≤ a ∧ a ≤ 4294967295 ∧ 0 ≤ b ∧ b ≤ 4294967295 ∧ a ≤ b then (SetMath.cover a b).map ofB else []
theorem setSpan_ev (a b : Int) : Ev (fun k => impl_SetSpan.f k a b) (spanB a b) := by
  unfold impl_SetSpan.f spanB
  refine Ev.pre (isAddr_eq a) ?_
  by_cases ha : 0 ≤ a ∧ a ≤ 4294967295
  · refine Ev.iteT (decide_eq_true ha) (Ev.pre (isAddr_eq b) ?_)
    by_cases hb : 0 ≤ b ∧ b ≤ 4294967295
    · refine Ev.iteT (decide_eq_true hb) ?_
      by_cases h : a > b
      · refine Ev.iteT h ?_
        rw [if_neg (by omega)]; exact Ev.now _
      · refine Ev.iteF h ?_
        rw [if_pos (by omega)]
        exact Ev.bind (blocks_ev ha.1 hb.2) (Ev.now _)
    · refine Ev.iteF (by simpa using hb) ?_
      rw [if_neg (by omega)]; exact Ev.now _
  · refine Ev.iteF (by simpa using ha) ?_
    rw [if_neg (by omega)]; exact Ev.now _
theorem setSpanS_ev (a b : Int) : Ev (fun k => spec_SetSpan.f k a b) (spanB a b) := by
  unfold spec_SetSpan.f spanB
  refine Ev.pre (l1Addr_eq a) ?_
  by_cases ha : 0 ≤ a ∧ a ≤ 4294967295
  · refine Ev.iteT (decide_eq_true ha) (Ev.pre (l1Addr_eq b) ?_)
    by_cases hb : 0 ≤ b ∧ b ≤ 4294967295
    · refine Ev.iteT (decide_eq_true hb) ?_
      by_cases h : a > b
      · refine Ev.iteT h ?_
        rw [if_neg (by omega)]; exact Ev.now _
      · refine Ev.iteF h ?_
        rw [if_pos (by omega)]
        have := coverS_ev (l := [(⟨a, b⟩ : S72)]) (by simp; omega) (by simp)
        refine Ev.bind (a := (SetMath.cover a b).map ofB) ?_ (Ev.now _)
        simpa [covers, toP] using this
    · refine Ev.iteF (by simpa using hb) ?_
      rw [if_neg (by omega)]; exact Ev.now _
  · refine Ev.iteF (by simpa using ha) ?_
    rw [if_neg (by omega)]; exact Ev.now _
theorem spanB_len (a b : Int) : (spanB a b).length ≤ 64 := by
  unfold spanB; split
  · rename_i h; have := @cover_len a b h.1 (by omega); simpa using this
  · simp
theorem span_setOk {a b : Int} (h : 0 ≤ a ∧ a ≤ 4294967295 ∧ 0 ≤ b ∧ b ≤ 4294967295 ∧ a ≤ b) : SetOk (spanB a b) ∧ total (spansOf (spanB a b)) = b - a + 1 ∧ ∀ x, memS (spansOf (spanB a b)) x ↔ a ≤ x ∧ x ≤ b := by
  have hsp : spansOf ((SetMath.cover a b).map ofB) = (SetMath.cover a b).map spanOf := by unfold spansOf; rw [map_to_ofB]
  have hc : covers [(a, b)] = SetMath.cover a b := by simp [covers]
  have hcan : Canon [(a, b)] := by simp [Canon, SetMath.Good]; omega
  have hlen := spanB_len a b
  unfold spanB at hlen ⊢
  rw [if_pos h] at hlen ⊢
  refine ⟨⟨hlen, ?_, ?_⟩, ?_, ?_⟩
  · intro x hx
    obtain ⟨c, hcm, rfl⟩ := List.mem_map.1 hx
    exact okI_ofB (cover_ok h.2.2.2.1 a h.1 c hcm).1
  · rw [hsp, ← hc, canon_covers hcan, hc]
  · rw [hsp, cover_total a (by omega)]
  · intro x; rw [hsp]; exact cover_mem a x
theorem FnSetSpan : laws_FnSetSpan.Pure := by
  intro l0 _ _ hwf
  have hb : Bytes l0 := by
    intro x hx
    have := hwf x hx
    simp [Lit.wf, show IntKind.u8.min = 0 from rfl, show IntKind.u8.max = 255 from rfl] at this
    omega
  refine Ev.rounds (r := true) ?_
  unfold laws_FnSetSpan.f
  by_cases hl : (l0.length : Int) > 1048576
  · exact Ev.iteT hl (Ev.now _)
  refine Ev.iteF hl ?_
  obtain ⟨a, b, a1, a2, b1, b2, hd⟩ := drawSpan_ev hb
  have hs := setSpan_ev a b
  have hs2 := setSpanS_ev a b
  have hlen := spanB_len a b
  have hov := ov_ev (s := spanB a b) (t := spanB a b) (by omega)
  refine Ev.bind hd (Ev.bind hs (Ev.bind hs2 (Ev.bind hov (Ev.iteT (by simp) ?_))))
  refine Ev.succ ?_
  simp only [laws_FnSetSpan.j0]
  by_cases h : 0 ≤ a ∧ a ≤ 4294967295 ∧ 0 ≤ b ∧ b ≤ 4294967295 ∧ a ≤ b
  · obtain ⟨k1, k2, k3⟩ := span_setOk h
    have hne : ¬ ((spanB a b).length : Int) = 0 := by
      unfold spanB; rw [if_pos h, cover_cons h.2.2.2.2]; simp; omega
    have ht : ∀ x, a ≤ x ∧ x ≤ b → Ev (fun k => impl_SetHas.f k (spanB a b) x) true := fun x hx => setHas_ev _ _ (by simp [k1, k3, hx])
    have hf : ∀ x, ¬ (a ≤ x ∧ x ≤ b) → Ev (fun k => impl_SetHas.f k (spanB a b) x) false := fun x hx => setHas_ev _ _ (by simp only [k3, hx]; simp)
    refine Ev.iteF (by simpa using hne) ?_
    refine Ev.bind (setOk_ev _) (Ev.iteT (decide_eq_true k1) (Ev.bind (setSize_ev _) (Ev.iteT ?_ ?_)))
    · rw [if_pos k1, k2, w64 (x := b - a) (by omega) (by omega), w64 (by omega) (by omega)]
    · rw [w64 (x := a - 1) (by omega) (by omega), w64 (x := b + 1) (by omega) (by omega)]
      refine Ev.bind (ht a (by omega)) (Ev.iteT rfl (Ev.bind (ht b (by omega)) (Ev.iteT rfl (Ev.bind (hf _ (by omega)) (Ev.iteF (by decide) (Ev.bind (hf _ (by omega)) ?_))))))
      exact Ev.now _
  · have he : spanB a b = [] := by unfold spanB; rw [if_neg h]
    refine Ev.iteT (by rw [he]; rfl) (Ev.bind hs2 (Ev.bind hov (Ev.iteT (by simp) (Ev.iteF (by rw [he]; simp) ?_))))
    by_cases h1 : a < 0
    · exact Ev.iteT h1 (Ev.now _)
    refine Ev.iteF h1 ?_
    by_cases h2 : b < 0
    · exact Ev.iteT h2 (Ev.now _)
    refine Ev.iteF h2 ?_
    by_cases h3 : a > 4294967295
    · exact Ev.iteT h3 (Ev.now _)
    refine Ev.iteF h3 ?_
    by_cases h4 : b > 4294967295
    · exact Ev.iteT h4 (Ev.now _)
    refine Ev.iteF h4 ?_
    rw [decide_eq_true (show a > b by omega)]
    exact Ev.now _
end Go.Proofs.Ythkjkmgbdahggaa.Sets
