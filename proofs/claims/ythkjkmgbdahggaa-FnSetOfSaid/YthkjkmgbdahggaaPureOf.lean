/- FnSetOf: the plain law. -/
import Derived.Test.YthkjkmgbdahggaaOver
import Derived.Test.YthkjkmgbdahggaaPOx13
namespace Go.Proofs.Ythkjkmgbdahggaa.Sets
open Go.RowKit Go.Proofs.Ythkjkmgbdahggaa.PO Go.Proofs.YthkjkmgbdahggaaW.PrintWords Go.Proofs.YthkjkmgbdahggaaW.PrintLast Go.Proofs.YthkjkmgbdahggaaW.PrintMore Go.Proofs.Ythkjkmgbdahggaa.SetMath
set_option linter.unusedVariables false
set_option linter.unusedSimpArgs false

theorem drawOf_ev {l : List Int} (hb : Bytes l) : ∃ out, out.length ≤ 67 ∧ Ev (fun k => spec_DrawSetOf.f k l) out := by
  obtain ⟨l', hb', hl', ho⟩ := open_eq hb
  obtain ⟨bl, s, o1, o2, o3, o4, oe⟩ := l12Blocks_ev hb' (by omega) (Int.le_refl 0) (by omega)
  obtain ⟨v, v0, v1, hv⟩ := pick_ev hb' (by omega) 12 (by omega) (show 0 ≤ s by omega) (by omega)
  unfold spec_DrawSetOf.f
  by_cases hc : v = 0
  · obtain ⟨x, s2, x1, x2, xe⟩ := l12AnyBlock_ev hb' (by omega) (show 0 ≤ s + 1 by omega) (by omega)
    exact ⟨bl ++ [⟨x.f0, x.f1⟩], by simp; omega, Ev.pre ho (Ev.bind oe (Ev.bind hv (Ev.iteT hc (Ev.bind xe (Ev.iteT (by simp only; omega) (Ev.now _))))))⟩
  · exact ⟨bl, by omega, Ev.pre ho (Ev.bind oe (Ev.bind hv (Ev.iteF hc (Ev.now _))))⟩
theorem setOf_self {l : List S40} (h : SetOk l) : setOf l = (l, true) := by
  unfold setOf
  rw [if_pos ⟨h.1, h.2.1⟩, h.2.2, if_pos h.1]
theorem setOf_set {l : List S40} (h : (setOf l).2 = true) : SetOk (setOf l).1 ∧ (∀ x ∈ l, okI x) ∧ ∀ p, memS (spansOf (setOf l).1) p ↔ memS (spansOf l) p := by
  unfold setOf at h ⊢
  split at h
  · rename_i hl
    rw [if_pos hl]
    split at h
    · rename_i h64
      rw [if_pos h64]
      have hg := spansOf_good l
      have hw := spansOf_within hl.2
      have hsp : spansOf ((covers (canon (spansOf l))).map ofB) = (covers (canon (spansOf l))).map spanOf := by unfold spansOf; rw [map_to_ofB]
      refine ⟨⟨h64, ?_, ?_⟩, hl.2, ?_⟩
      · intro x hx
        obtain ⟨c, hcm, rfl⟩ := List.mem_map.1 hx
        exact okI_ofB (covers_ok (canon_within hg hw) c hcm)
      · show (covers (canon (spansOf ((covers (canon (spansOf l))).map ofB)))).map ofB = _
        rw [hsp, canon_covers (canon_spec hg).1]
      · intro p
        show memS (spansOf ((covers (canon (spansOf l))).map ofB)) p ↔ _
        rw [hsp, covers_mem, (canon_spec hg).2]
    · cases h
  · cases h
theorem lawOf_end {X : List S40} (h : SetOk X) : Ev (fun k => (impl_SetOf.f k X).bind fun bt445 => ((impl_SetOk.f k X).bind fun t449 => (if t449 = true then (if bt445.2 = true then ((laws_ovBlocks.f k bt445.1 X).bind fun t450 => (some t450)) else (some false)) else (some false)))) true := by
  have h1 := setOfI_ev X
  rw [setOf_self h] at h1
  have h2 := setOk_ev X
  have h3 := ov_ev (s := X) (t := X) (by have := h.1; omega)
  rw [decide_eq_true h] at h2
  rw [decide_eq_true rfl] at h3
  exact Ev.bind h1 (Ev.bind h2 (Ev.iteT rfl (Ev.iteT rfl (Ev.bind h3 (Ev.now _)))))
theorem lawOf_l1 {X : List S40} (hX : SetOk X) : ∀ (s p : List S40) (u : S40), X = p ++ u :: s → chain (fun x y => Next (toB x) (toB y)) (u :: s) → Ev (fun k => laws_FnSetOf.l1 k X ((p.length : Int) + 1)) true := by
  intro s
  induction s with
  | nil =>
    intro p u e _
    refine Ev.succ ?_
    simp only [laws_FnSetOf.l1]
    exact Ev.iteF (by rw [e]; simp) (lawOf_end hX)
  | cons y s ih =>
    intro p u e hc
    obtain ⟨hn, hc⟩ := hc
    have hlen := hX.1
    have el : X.length = p.length + (s.length + 2) := by rw [e]; simp
    have hu := hX.2.1 u (by rw [e]; simp)
    have hy := hX.2.1 y (by rw [e]; simp)
    have r0 : rd_T40 X (p.length : Int) = u := by rw [e]; exact rdB p u (y :: s)
    have r1 : rd_T40 X ((p.length : Int) + 1) = y := by
      have := rdB (p ++ [u]) y s
      rw [e]
      simpa using this
    have ew : wrap64 ((p.length : Int) + 1 - 1) = (p.length : Int) := by rw [w64 (by omega) (by omega)]; omega
    have hp := sz_pos u.f1.toNat
    have hpy := sz_pos y.f1.toNat
    have hlu := sz_lt (b := u.f1.toNat)
    have hly := sz_lt (b := y.f1.toNat)
    have hov : overB u y ≤ 32 := by unfold overB; have := shared_le u.f0 y.f0; omega
    have oko : okI ⟨u.f0 / sz (overB u y) * sz (overB u y), (overB u y : Int)⟩ := over_ok hu.1 hu.2.1 hov
    have hbs := blockSize_eq oko
    have hnx : u.f0 + sz u.f1.toNat ≤ y.f0 := hn.1
    refine Ev.succ ?_
    simp only [laws_FnSetOf.l1]
    refine Ev.iteT (by omega) ?_
    rw [ew, r0, r1]
    have next : Ev (fun k => laws_FnSetOf.l1 k X (wrap64 ((p.length : Int) + 1 + 1))) true := by
      rw [w64 (by omega) (by omega)]
      have := ih (p ++ [u]) y (by rw [e]; simp) hc
      simpa using this
    refine Ev.iteT (by omega) (Ev.iteT (by omega) (Ev.iteT (by omega) (Ev.bind (overI_ev hu hy) (Ev.iteF (by omega) (Ev.pre (meetsI_eq hu hy hnx) (Ev.iteF (by decide) (Ev.pre hbs (Ev.pre (blockSize_eq hu) (Ev.pre (blockSize_eq hy) ?_)))))))))
    simp only [Int.toNat_natCast]
    rw [w64 (x := sz u.f1.toNat + sz y.f1.toNat) (by omega) (by omega)]
    by_cases hs : sz (overB u y) = sz u.f1.toNat + sz y.f1.toNat
    · refine Ev.iteT hs (Ev.iteF (fun he => not_halves hu hy hn he hs) next)
    · exact Ev.iteF hs next
theorem lawOf_l0 {X : List S40} (hX : SetOk X) : ∀ (s p : List S40), (p ++ s).length < 1000 → (∀ x ∈ s, okI x ∧ memS (spansOf X) x.f0 ∧ memS (spansOf X) (x.f0 + sz x.f1.toNat - 1)) → Ev (fun k => laws_FnSetOf.l0 k (p ++ s) X (p.length : Int)) true := by
  intro s
  induction s with
  | nil =>
    intro p _ _
    refine Ev.succ ?_
    simp only [laws_FnSetOf.l0]
    refine Ev.iteF (by simp) ?_
    cases X with
    | nil =>
      refine Ev.succ ?_
      simp only [laws_FnSetOf.l1]
      exact Ev.iteF (by simp) (lawOf_end hX)
    | cons u s =>
      have := lawOf_l1 hX s [] u rfl (setOk_next hX)
      simpa using this
  | cons x s ih =>
    intro p hl hx
    have e1 : wrap64 ((p.length : Int) + 1) = ((p ++ [x]).length : Int) := by simp at hl; rw [w64 (by omega) (by omega)]; simp
    obtain ⟨h1, h2, h3⟩ := hx x (by simp)
    have hz := sz_pos x.f1.toNat
    have hz2 := sz_lt (b := x.f1.toNat)
    obtain ⟨q1, q2, _⟩ := id h1
    refine Ev.succ ?_
    simp only [laws_FnSetOf.l0]
    refine Ev.iteT (by simp; omega) (Ev.iteT (by omega) ?_)
    rw [rdB p x s]
    refine Ev.bind (setHas_ev X x.f0 (d := true) (by simp [hX, h2])) (Ev.iteT rfl (Ev.pre (blockSize_eq h1) ?_))
    rw [w64 (x := x.f0 + sz x.f1.toNat) (by omega) (by omega), w64 (x := x.f0 + sz x.f1.toNat - 1) (by omega) (by omega)]
    refine Ev.bind (setHas_ev X (x.f0 + sz x.f1.toNat - 1) (d := true) (by simp [hX, h3])) (Ev.iteT rfl ?_)
    rw [e1]
    have := ih (p ++ [x]) (by simpa using hl) (fun y hy => hx y (by simp [hy]))
    simpa using this
theorem FnSetOf : laws_FnSetOf.Pure := by
  intro l0 _ _ hwf
  have hb : Bytes l0 := by
    intro x hx
    have := hwf x hx
    simp [Lit.wf, show IntKind.u8.min = 0 from rfl, show IntKind.u8.max = 255 from rfl] at this
    omega
  refine Ev.rounds (r := true) ?_
  unfold laws_FnSetOf.f
  by_cases hl : (l0.length : Int) > 1048576
  · exact Ev.iteT hl (Ev.now _)
  refine Ev.iteF hl ?_
  obtain ⟨s, hs, hd⟩ := drawOf_ev hb
  have h1 := setOfI_ev s
  have h2 := setOfS_ev (l := s) (by omega)
  have hk := setOf_ok s
  have hov := ov_ev (s := (setOf s).1) (t := (setOf s).1) (by omega)
  rw [decide_eq_true rfl] at hov
  refine Ev.bind hd (Ev.bind h1 (Ev.bind h2 (Ev.iteF (by simp) (Ev.bind hov (Ev.iteT rfl (Ev.succ ?_))))))
  simp only [laws_FnSetOf.j0]
  by_cases hok : (setOf s).2 = true
  · refine Ev.iteF (by simp [hok]) ?_
    obtain ⟨f1, f2, f3⟩ := setOf_set hok
    have := lawOf_l0 f1 s [] (by simp; omega) (fun x hx => by
      have hz := sz_pos x.f1.toNat
      refine ⟨f2 x hx, ?_, ?_⟩
      · rw [f3, memS_spans]; exact ⟨x, hx, by omega, by omega⟩
      · rw [f3, memS_spans]; exact ⟨x, hx, by omega, by omega⟩)
    simpa using this
  · refine Ev.iteT (by simp [hok]) (Ev.iteT (by simp) (Ev.bind hov (Ev.now _)))
end Go.Proofs.Ythkjkmgbdahggaa.Sets
