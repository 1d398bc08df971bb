/- FnSetHas: the plain law. -/
import Derived.Test.YthkjkmgbdahggaaSetsE
import Derived.Test.YthkjkmgbdahggaaPHx14
namespace Go.Proofs.Ythkjkmgbdahggaa.Sets
open Go.RowKit Go.Proofs.Ythkjkmgbdahggaa.PH Go.Proofs.YthkjkmgbdahggaaW.PrintWords Go.Proofs.YthkjkmgbdahggaaW.PrintLast Go.Proofs.YthkjkmgbdahggaaW.PrintMore Go.Proofs.Ythkjkmgbdahggaa.SetMath
set_option linter.unusedVariables false
set_option linter.unusedSimpArgs false
def anyHas (l : List S40) (a : Int) : Bool := l.any fun x => decide (x.f0 ≤ a ∧ a ≤ x.f0 + sz x.f1.toNat - 1)
theorem anyHas_iff (l : List S40) (a : Int) : anyHas l a = true ↔ memS (spansOf l) a := by
  unfold anyHas
  rw [List.any_eq_true, memS_spans]
  constructor
  · rintro ⟨x, hx, h⟩; exact ⟨x, hx, by simpa using h⟩
  · rintro ⟨x, hx, h⟩; exact ⟨x, hx, by simpa using h⟩
theorem lawHas_l0 {a : Int} {d : Bool} {n : Int} : ∀ (s p : List S40) (b : Bool) (acc : Int), 0 ≤ acc → acc + s.length * 4294967296 < 9223372036854775808 → (p ++ s).length < 8796093022208 → (∀ x ∈ s, okI x) →
    d = (b || anyHas s a) → n = acc + total (spansOf s) → Ev (fun k => laws_FnSetHas.l0 k (p ++ s) a d n b acc (p.length : Int)) true := by
  intro s
  induction s with
  | nil =>
    intro p b acc _ _ _ _ hd hn
    refine Ev.succ ?_
    simp only [laws_FnSetHas.l0]
    refine Ev.iteF (by simp) (Ev.iteT (by simp [hd, anyHas]) ?_)
    have e : (n == acc) = true := by rw [hn]; simp [spansOf, total]
    rw [e]; exact Ev.now _
  | cons x s ih =>
    intro p b acc h0 ha hl hx hd hn
    have e1 : wrap64 ((p.length : Int) + 1) = ((p ++ [x]).length : Int) := by simp at hl; rw [w64 (by omega) (by omega)]; simp
    have hok := hx x (by simp)
    have hz := sz_pos x.f1.toNat
    have hz2 := sz_lt (b := x.f1.toNat)
    simp at ha
    have e5 : total (spansOf (x :: s)) = sz x.f1.toNat + total (spansOf s) := by simp only [spansOf, List.map_cons, total_cons, spanOf, toB]; omega
    rw [e5, ← Int.add_assoc] at hn
    refine Ev.succ ?_
    simp only [laws_FnSetHas.l0]
    refine Ev.iteT (by simp; omega) ?_
    rw [rdB p x s]
    have hih := fun (b : Bool) (hb : d = (b || anyHas s a)) => ih (p ++ [x]) b (acc + sz x.f1.toNat) (by omega) (by omega) (by simpa using hl) (fun y hy => hx y (by simp [hy])) hb hn
    by_cases hb : b = true
    · subst hb
      refine Ev.iteT rfl (Ev.iteT (by omega) (Ev.pre (blockSize_eq hok) ?_))
      rw [e1, w64 (by omega) (by omega)]
      have := hih true (by rw [hd]; simp)
      simpa using this
    · refine Ev.iteF hb (Ev.iteT (by omega) (Ev.pre (blockHas_eq hok a) (Ev.pre (blockSize_eq hok) ?_)))
      rw [e1, w64 (by omega) (by omega)]
      have hbf : b = false := by simpa using hb
      have := hih (decide (x.f0 ≤ a ∧ a ≤ x.f0 + sz x.f1.toNat - 1)) (by rw [hd, hbf]; simp [anyHas])
      simpa using this
theorem FnSetHas : laws_FnSetHas.Pure := by
  intro l0 _ _ hwf
  have hb : Bytes l0 := by
    intro x hx
    have := hwf x hx
    simp [Lit.wf, show IntKind.u8.min = 0 from rfl, show IntKind.u8.max = 255 from rfl] at this
    omega
  refine Ev.rounds (r := true) ?_
  unfold laws_FnSetHas.f
  by_cases hl : (l0.length : Int) > 1048576
  · exact Ev.iteT hl (Ev.now _)
  refine Ev.iteF hl ?_
  obtain ⟨s, a, hs, hd⟩ := drawHas_ev hb
  let d : Bool := decide (SetOk s) && anyHas s a
  have hdd : d = true ↔ SetOk s ∧ memS (spansOf s) a := by simp only [d, Bool.and_eq_true, decide_eq_true_eq, anyHas_iff]
  have h1 := setHas_ev s a hdd
  have h2 := setSize_ev s
  have h3 := setHasS_ev (l := s) (by omega) a hdd
  have h4 := setSizeS_ev (l := s) (by omega)
  have h5 := setOkS_ev (l := s) (by omega)
  refine Ev.bind hd (Ev.bind h1 (Ev.bind h2 (Ev.bind h3 (Ev.iteF (by simp) (Ev.bind h4 (Ev.iteT rfl (Ev.bind h5 (Ev.succ ?_))))))))
  simp only [laws_FnSetHas.j0]
  by_cases hok : SetOk s
  · refine Ev.iteF (by simp [hok]) ?_
    have := lawHas_l0 (a := a) (d := d) (n := if SetOk s then total (spansOf s) else 0) s [] false 0 (by omega) (by omega) (by simp; omega) hok.2.1 (by simp [d, hok]) (by rw [if_pos hok]; omega)
    simpa using this
  · refine Ev.iteT (by simp [hok]) (Ev.bind h3 (Ev.iteT (by simp) (Ev.bind h4 ?_)))
    simpa using Ev.now true
end Go.Proofs.Ythkjkmgbdahggaa.Sets
