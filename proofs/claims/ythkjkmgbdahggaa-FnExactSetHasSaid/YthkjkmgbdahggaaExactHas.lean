/- FnExactSetHas: the plain law. -/
import Derived.Test.YthkjkmgbdahggaaSetsD
import Derived.Test.YthkjkmgbdahggaaPEx11
namespace Go.Proofs.Ythkjkmgbdahggaa.Sets
open Go.RowKit Go.Proofs.Ythkjkmgbdahggaa.PE Go.Proofs.YthkjkmgbdahggaaW.PrintWords Go.Proofs.YthkjkmgbdahggaaW.PrintLast Go.Proofs.YthkjkmgbdahggaaW.PrintMore Go.Proofs.Ythkjkmgbdahggaa.SetMath
set_option linter.unusedVariables false
set_option linter.unusedSimpArgs false
def conv (x : S82) : S40 := ⟨x.f0, x.f1⟩
theorem rdL (l : List S82) (x : S82) (r : List S82) : rd_T82 (l ++ x :: r) (l.length : Int) = x := by simp [rd_T82]
theorem toBlockS_l0 : ∀ (s p : List S82) (acc : List S40), acc.length = p.length → (p ++ s).length < 8796093022208 →
    Ev (fun k => laws_toBlockS.l0 k (p ++ s) (acc ++ List.replicate s.length z40) (p.length : Int)) (acc ++ s.map conv) := by
  intro s
  induction s with
  | nil => intro p acc _ _; refine Ev.succ ?_; simp only [laws_toBlockS.l0]; refine Ev.iteF (by simp) ?_; simpa using Ev.now acc
  | cons x s ih =>
    intro p acc ha hl
    have e1 : wrap64 ((p.length : Int) + 1) = ((p ++ [x]).length : Int) := by simp at hl; rw [w64 (by omega) (by omega)]; simp
    refine Ev.succ ?_
    simp only [laws_toBlockS.l0, laws_toBlock.f, Option.bind_some]
    refine Ev.iteT (by simp; omega) (Ev.iteT (by omega) (Ev.iteT (by simp; omega) ?_))
    rw [rdL p x s, e1]
    have e2 : (acc ++ List.replicate (x :: s).length z40).set ((p.length : Int)).toNat (⟨x.f0, x.f1⟩ : S40) = (acc ++ [conv x]) ++ List.replicate s.length z40 := by
      rw [show ((p.length : Int)).toNat = acc.length from by omega]
      simp [List.replicate_succ, conv]
    rw [e2]
    have := ih (p ++ [x]) (acc ++ [conv x]) (by simp [ha]) (by simpa using hl)
    simpa using this
theorem toBlockS_ev {l : List S82} (hl : l.length < 8796093022208) : Ev (fun k => laws_toBlockS.f k l) (l.map conv) := by
  unfold laws_toBlockS.f
  refine Ev.iteT (by omega) (Ev.iteT (by omega) ?_)
  simpa using toBlockS_l0 l [] [] rfl (by simpa using hl)
theorem eqBlock_eq (x : S40) : laws_eqBlock.f x.f0 x.f1 x.f0 x.f1 = some true := by unfold laws_eqBlock.f; simp
theorem eqBlockS_l0 : ∀ (s p : List S40), (p ++ s).length < 8796093022208 → Ev (fun k => laws_eqBlockS.l0 k (p ++ s) (p ++ s) (p.length : Int)) true := by
  intro s
  induction s with
  | nil => intro p _; refine Ev.succ ?_; simp only [laws_eqBlockS.l0]; exact Ev.iteF (by simp) (Ev.now _)
  | cons x s ih =>
    intro p hl
    have e1 : wrap64 ((p.length : Int) + 1) = ((p ++ [x]).length : Int) := by simp at hl; rw [w64 (by omega) (by omega)]; simp
    refine Ev.succ ?_
    simp only [laws_eqBlockS.l0]
    refine Ev.iteT (by simp; omega) (Ev.iteT (by omega) (Ev.iteT (by simp; omega) ?_))
    rw [rdB p x s, e1]
    refine Ev.pre (eqBlock_eq x) (Ev.iteT rfl ?_)
    have := ih (p ++ [x]) (by simpa using hl)
    simpa using this
theorem eqBlockS_ev {l : List S40} (hl : l.length < 8796093022208) : Ev (fun k => laws_eqBlockS.f k l l) true := by
  unfold laws_eqBlockS.f
  refine Ev.iteT rfl ?_
  simpa using eqBlockS_l0 l [] (by simpa using hl)
theorem exactHas (l0 : List S82) (a : Int) (hl : l0.length ≤ maxLen) : ∃ k, laws_FnExactSetHas.f k l0 a = some true := by
  have hm : l0.length ≤ 9223372036854775807 := hl
  refine Ev.rounds (r := true) ?_
  unfold laws_FnExactSetHas.f laws_szBlockS.f
  rw [w64 (x := 1048576 - (l0.length : Int)) (by omega) (by omega)]
  by_cases h : (1048576 : Int) - (l0.length : Int) < 0
  · rw [if_pos h]
    exact Ev.pre rfl (Ev.iteT (by omega) (Ev.now _))
  · rw [if_neg h]
    have hs : l0.length < 8796093022208 := by omega
    have h1 := toBlockS_ev hs
    have hs2 : (l0.map conv).length < 8796093022208 := by simpa using hs
    have hd := Classical.propDecidable (memS (spansOf (l0.map conv)) a)
    have hdd : (decide (SetOk (l0.map conv)) && decide (memS (spansOf (l0.map conv)) a)) = true ↔ SetOk (l0.map conv) ∧ memS (spansOf (l0.map conv)) a := by simp
    refine Ev.pre rfl (Ev.iteF h (Ev.bind h1 (Ev.bind (setHasS_ev hs2 a hdd) (Ev.bind h1 (Ev.bind (setHas_ev _ a hdd) (Ev.iteF (by simp) (Ev.bind h1 (Ev.bind (eqBlockS_ev hs2) (Ev.iteT rfl (Ev.now _))))))))))
end Go.Proofs.Ythkjkmgbdahggaa.Sets
