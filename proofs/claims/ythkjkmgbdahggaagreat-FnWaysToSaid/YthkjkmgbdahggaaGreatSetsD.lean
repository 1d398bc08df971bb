/- The law side's sets: blocks in order, spans sorted and made one, order of a set, membership, size, the set of blocks. -/
import Derived.Test.YthkjkmgbdahggaaGreatSetsC
namespace Go.Proofs.YthkjkmgbdahggaaGreat.Sets
open Go.RowKit Go.Proofs.YthkjkmgbdahggaaGreat.PY Go.Proofs.YthkjkmgbdahggaaGreatW.PrintWords Go.Proofs.YthkjkmgbdahggaaGreatW.PrintLast Go.Proofs.YthkjkmgbdahggaaGreatW.PrintMore Go.Proofs.YthkjkmgbdahggaaGreat.SetMath
set_option linter.unusedVariables false
set_option linter.unusedSimpArgs false
theorem sizeI_ev {x : S32} (h : okI x) : Ev (fun k => spec_l1Size.f k x.f1) (sz x.f1.toNat) := by
  obtain ⟨q1, q2, q3, q4, q5⟩ := h
  have e2 : x.f1 = ((x.f1.toNat : Nat) : Int) := by omega
  have := sizeS_ev (n := x.f1.toNat) (by omega)
  rwa [← e2] at this
theorem blockOkS_ev (x : S32) : Ev (fun k => spec_BlockOk.f k x.f0 x.f1) (decide (okI x)) := by
  unfold spec_BlockOk.f
  refine Ev.pre (l1Addr_eq x.f0) ?_
  by_cases h : 0 ≤ x.f0 ∧ x.f0 ≤ 4294967295
  · refine Ev.iteT (decide_eq_true h) (Ev.pre (l1In_eq x.f1 0 32) ?_)
    by_cases h2 : 0 ≤ x.f1 ∧ x.f1 ≤ 32
    · have e2 : x.f1 = ((x.f1.toNat : Nat) : Int) := by omega
      have hs := sizeS_ev (n := x.f1.toNat) (by omega)
      rw [← e2] at hs
      have hp := sz_pos x.f1.toNat
      refine Ev.iteT (decide_eq_true h2) (Ev.bind hs (Ev.iteF (by omega) ?_))
      have e : (Int.tmod x.f0 (sz x.f1.toNat) == 0) = decide (okI x) := by
        rw [Bool.eq_iff_iff, beq_iff_eq, decide_eq_true_eq, tmod_iff hp]
        exact ⟨fun hd => ⟨h.1, h.2, h2.1, h2.2, hd⟩, fun hd => hd.2.2.2.2⟩
      rw [e]; exact Ev.now _
    · refine Ev.iteF (by simpa using h2) ?_
      rw [decide_eq_false (fun q : okI x => h2 ⟨q.2.2.1, q.2.2.2.1⟩)]; exact Ev.now _
  · refine Ev.iteF (by simpa using h) ?_
    rw [decide_eq_false (fun q : okI x => h ⟨q.1, q.2.1⟩)]; exact Ev.now _
def ofP (x : Int × Int) : S73 := ⟨x.1, x.2⟩
theorem map_to_ofP (l : List (Int × Int)) : (l.map ofP).map toP = l := by
  rw [List.map_map]; exact (List.map_congr_left (g := id) fun x _ => rfl).trans (by simp)
theorem lastS_ev {x : S32} (h : okI x) : Ev (fun k => spec_l1Last.f k x.f0 x.f1) (x.f0 + sz x.f1.toNat - 1) := by
  unfold spec_l1Last.f
  have hp := sz_pos x.f1.toNat
  have hl := sz_lt (b := x.f1.toNat)
  have hok := h
  obtain ⟨q1, q2, q3, q4, q5⟩ := h
  refine Ev.bind (sizeI_ev hok) ?_
  rw [w64 (x := x.f0 + sz x.f1.toNat) (by omega) (by omega), w64 (by omega) (by omega)]
  exact Ev.now _
end Go.Proofs.YthkjkmgbdahggaaGreat.Sets
