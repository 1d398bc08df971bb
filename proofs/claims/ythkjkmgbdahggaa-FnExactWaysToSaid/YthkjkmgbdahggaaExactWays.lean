/- FnExactWaysTo: the plain law. On the condition that the argument is no longer than a slice can be. -/
import Derived.Test.YthkjkmgbdahggaaWaysB
namespace Go.Proofs.Ythkjkmgbdahggaa.Sets
open Go.RowKit Go.Proofs.Ythkjkmgbdahggaa.PW Go.Proofs.YthkjkmgbdahggaaW.PrintWords Go.Proofs.YthkjkmgbdahggaaW.PrintLast Go.Proofs.YthkjkmgbdahggaaW.PrintMore Go.Proofs.Ythkjkmgbdahggaa.SetMath
set_option linter.unusedVariables false
set_option linter.unusedSimpArgs false

def convW (x : S98) : S95 := ⟨⟨x.f0.f0, x.f0.f1⟩, x.f1⟩
theorem rdLW (l : List S98) (x : S98) (r : List S98) : rd_T98 (l ++ x :: r) (l.length : Int) = x := by simp [rd_T98]
theorem toWayS_l0 : ∀ (s p : List S98) (acc : List S95), acc.length = p.length → (p ++ s).length < 8796093022 →
    Ev (fun k => laws_toWayS.l0 k (p ++ s) (acc ++ List.replicate s.length z95) (p.length : Int)) (acc ++ s.map convW) := by
  intro s
  induction s with
  | nil => intro p acc _ _; refine Ev.succ ?_; simp only [laws_toWayS.l0]; refine Ev.iteF (by simp) ?_; simpa using Ev.now acc
  | cons x s ih =>
    intro p acc ha hl
    have e1 : wrap64 ((p.length : Int) + 1) = ((p ++ [x]).length : Int) := by simp at hl; rw [w64 (by omega) (by omega)]; simp
    refine Ev.succ ?_
    simp only [laws_toWayS.l0, laws_toWay.f, laws_toBlock.f, Option.bind_some]
    refine Ev.iteT (by simp; omega) (Ev.iteT (by omega) (Ev.iteT (by simp; omega) ?_))
    rw [rdLW p x s, e1]
    have e2 : (acc ++ List.replicate (x :: s).length z95).set ((p.length : Int)).toNat (⟨⟨x.f0.f0, x.f0.f1⟩, x.f1⟩ : S95) = (acc ++ [convW x]) ++ List.replicate s.length z95 := by
      rw [show ((p.length : Int)).toNat = acc.length from by omega]
      simp [List.replicate_succ, convW]
    rw [e2]
    have := ih (p ++ [x]) (acc ++ [convW x]) (by simp [ha]) (by simpa using hl)
    simpa using this
theorem toWayS_ev {l : List S98} (hl : l.length < 8796093022) : Ev (fun k => laws_toWayS.f k l) (l.map convW) := by
  unfold laws_toWayS.f
  refine Ev.iteT (by omega) (Ev.iteT (by omega) ?_)
  simpa using toWayS_l0 l [] [] rfl (by simpa using hl)
theorem eqWay_eq (x : S95) : laws_eqWay.f x.f0.f0 x.f0.f1 x.f1 x.f0.f0 x.f0.f1 x.f1 = some true := by unfold laws_eqWay.f laws_eqBlock.f; simp
theorem eqWayS_l0 : ∀ (s p : List S95), (p ++ s).length < 8796093022 → Ev (fun k => laws_eqWayS.l0 k (p ++ s) (p ++ s) (p.length : Int)) true := by
  intro s
  induction s with
  | nil => intro p _; refine Ev.succ ?_; simp only [laws_eqWayS.l0]; exact Ev.iteF (by simp) (Ev.now _)
  | cons x s ih =>
    intro p hl
    have e1 : wrap64 ((p.length : Int) + 1) = ((p ++ [x]).length : Int) := by simp at hl; rw [w64 (by omega) (by omega)]; simp
    refine Ev.succ ?_
    simp only [laws_eqWayS.l0]
    refine Ev.iteT (by simp; omega) (Ev.iteT (by omega) (Ev.iteT (by simp; omega) ?_))
    rw [rdW p x s, e1]
    refine Ev.pre (eqWay_eq x) (Ev.iteT rfl ?_)
    have := ih (p ++ [x]) (by simpa using hl)
    simpa using this
theorem eqWayS_ev {l : List S95} (hl : l.length < 8796093022) : Ev (fun k => laws_eqWayS.f k l l) true := by
  unfold laws_eqWayS.f
  refine Ev.iteT rfl ?_
  simpa using eqWayS_l0 l [] (by simpa using hl)
theorem eqBlock_eq (x : S40) : laws_eqBlock.f x.f0 x.f1 x.f0 x.f1 = some true := by unfold laws_eqBlock.f; simp
theorem eqBlockS_l0 : ∀ (s p : List S40), (p ++ s).length < 8796093022208 → Ev (fun k => laws_eqBlockS.l0 k (p ++ s) (p ++ s) (p.length : Int)) true := by
  intro s
  induction s with
  | nil => intro p _; refine Ev.succ ?_; simp only [laws_eqBlockS.l0]; exact Ev.iteF (by simp) (Ev.now _)
  | cons x s ih =>
    intro p hl
    have e1 : wrap64 ((p.length : Int) + 1) = ((p ++ [x]).length : Int) := by simp at hl; rw [w64 (by omega) (by omega)]; simp
    refine Ev.succ ?_
    simp only [laws_eqBlockS.l0]
    refine Ev.iteT (by simp; omega) (Ev.iteT (by omega) (Ev.iteT (by simp; omega) ?_))
    rw [rdB p x s, e1]
    refine Ev.pre (eqBlock_eq x) (Ev.iteT rfl ?_)
    have := ih (p ++ [x]) (by simpa using hl)
    simpa using this
theorem eqBlockS_ev {l : List S40} (hl : l.length < 8796093022208) : Ev (fun k => laws_eqBlockS.f k l l) true := by
  unfold laws_eqBlockS.f
  refine Ev.iteT rfl ?_
  simpa using eqBlockS_l0 l [] (by simpa using hl)
/-! ### marks -/
theorem markWayS_l0 : ∀ (d : Nat) (L : List S95) (i : Nat) (x : Int), i + d = L.length → L.length < 8796093022 → 0 ≤ x → x + 3 * d < 4611686018427387904 → ∃ out, Ev (fun k => laws_markWayS.l0 k L x (i : Int)) (x + 3 * (d : Int), out) := by
  intro d
  induction d with
  | zero =>
    intro L i x h _ _ _
    refine ⟨L, Ev.succ ?_⟩
    simp only [laws_markWayS.l0]
    refine Ev.iteF (by omega) ?_
    rw [show x + 3 * ((0 : Nat) : Int) = x from by omega]
    exact Ev.now _
  | succ d ih =>
    intro L i x h hl h0 h1
    have e1 : wrap64 ((i : Int) + 1) = ((i + 1 : Nat) : Int) := by rw [w64 (by omega) (by omega)]; omega
    have e2 : wrap64 (x + 1) = x + 1 := w64 (by omega) (by omega)
    have e3 : wrap64 (x + 1 + 1) = x + 1 + 1 := w64 (by omega) (by omega)
    have e4 : wrap64 (x + 1 + 1 + 1) = x + 3 := by rw [w64 (by omega) (by omega)]; omega
    have hh : ∀ M : List S95, M.length = L.length → ∃ out, Ev (fun k => laws_markWayS.l0 k M (x + 3) ((i + 1 : Nat) : Int)) (x + 3 * ((d + 1 : Nat) : Int), out) := fun M hM => by
      obtain ⟨out, ho⟩ := ih M (i + 1) (x + 3) (by omega) (by omega) (by omega) (by omega)
      refine ⟨out, ?_⟩
      rw [show x + 3 * ((d + 1 : Nat) : Int) = x + 3 + 3 * (d : Int) from by omega]
      exact ho
    obtain ⟨out, ho⟩ := hh (((L.set (i : Int).toNat (⟨(⟨x, (rd_T95 L i).f0.f1⟩ : S40), (rd_T95 L i).f1⟩ : S95)).set (i : Int).toNat (⟨(⟨(rd_T95 (L.set (i : Int).toNat (⟨(⟨x, (rd_T95 L i).f0.f1⟩ : S40), (rd_T95 L i).f1⟩ : S95)) i).f0.f0, x + 1⟩ : S40), (rd_T95 (L.set (i : Int).toNat (⟨(⟨x, (rd_T95 L i).f0.f1⟩ : S40), (rd_T95 L i).f1⟩ : S95)) i).f1⟩ : S95)).set (i : Int).toNat (⟨(⟨(rd_T95 ((L.set (i : Int).toNat (⟨(⟨x, (rd_T95 L i).f0.f1⟩ : S40), (rd_T95 L i).f1⟩ : S95)).set (i : Int).toNat (⟨(⟨(rd_T95 (L.set (i : Int).toNat (⟨(⟨x, (rd_T95 L i).f0.f1⟩ : S40), (rd_T95 L i).f1⟩ : S95)) i).f0.f0, x + 1⟩ : S40), (rd_T95 (L.set (i : Int).toNat (⟨(⟨x, (rd_T95 L i).f0.f1⟩ : S40), (rd_T95 L i).f1⟩ : S95)) i).f1⟩ : S95)) i).f0.f0, (rd_T95 ((L.set (i : Int).toNat (⟨(⟨x, (rd_T95 L i).f0.f1⟩ : S40), (rd_T95 L i).f1⟩ : S95)).set (i : Int).toNat (⟨(⟨(rd_T95 (L.set (i : Int).toNat (⟨(⟨x, (rd_T95 L i).f0.f1⟩ : S40), (rd_T95 L i).f1⟩ : S95)) i).f0.f0, x + 1⟩ : S40), (rd_T95 (L.set (i : Int).toNat (⟨(⟨x, (rd_T95 L i).f0.f1⟩ : S40), (rd_T95 L i).f1⟩ : S95)) i).f1⟩ : S95)) i).f0.f1⟩ : S40), x + 1 + 1⟩ : S95)) (by simp)
    refine ⟨out, Ev.succ ?_⟩
    simp only [laws_markWayS.l0]
    rw [e2, e3, e4, e1]
    refine Ev.iteT (by omega) (Ev.iteT (by omega) ?_)
    simp only [Option.bind_some]
    exact ho
theorem markWayS_ev {l : List S95} (hl : l.length < 8796093022) : ∃ out, Ev (fun k => laws_markWayS.f k l 1) (1 + 3 * (l.length : Int), out) := by
  unfold laws_markWayS.f
  exact markWayS_l0 l.length l 0 1 (by omega) hl (by omega) (by omega)
def mkB : Int → Nat → List S40
  | _, 0 => []
  | x, n + 1 => ⟨x, x + 1⟩ :: mkB (x + 2) n
theorem markBlockS_l0 : ∀ (s p : List S40) (x : Int), (p ++ s).length < 8796093022 → 0 ≤ x → x + 2 * s.length < 4611686018427387904 → Ev (fun k => laws_markBlockS.l0 k (p ++ s) x (p.length : Int)) (x + 2 * (s.length : Int), p ++ mkB x s.length) := by
  intro s
  induction s with
  | nil =>
    intro p x _ _ _
    refine Ev.succ ?_
    simp only [laws_markBlockS.l0]
    refine Ev.iteF (by simp) ?_
    simpa [mkB] using Ev.now (x, p)
  | cons y s ih =>
    intro p x hl h0 h1
    simp at h1
    have e1 : wrap64 ((p.length : Int) + 1) = ((p ++ [y]).length : Int) := by simp at hl; rw [w64 (by omega) (by omega)]; simp
    have e2 : wrap64 (x + 1) = x + 1 := w64 (by omega) (by omega)
    have e3 : wrap64 (x + 1 + 1) = x + 2 := by rw [w64 (by omega) (by omega)]; omega
    have s1 : (p ++ y :: s).set ((p.length : Int)).toNat (⟨x, (rd_T40 (p ++ y :: s) (p.length : Int)).f1⟩ : S40) = p ++ (⟨x, y.f1⟩ : S40) :: s := by rw [rdB p y s]; simp
    have s2 : (p ++ (⟨x, y.f1⟩ : S40) :: s).set ((p.length : Int)).toNat (⟨(rd_T40 (p ++ (⟨x, y.f1⟩ : S40) :: s) (p.length : Int)).f0, x + 1⟩ : S40) = p ++ (⟨x, x + 1⟩ : S40) :: s := by rw [rdB p _ s]; simp
    refine Ev.succ ?_
    simp only [laws_markBlockS.l0]
    refine Ev.iteT (by simp; omega) (Ev.iteT (by omega) ?_)
    simp only [Option.bind_some]
    rw [e2, e3, s1, s2, e1]
    have := ih (p ++ [(⟨x, x + 1⟩ : S40)]) (x + 2) (by simpa using hl) (by omega) (by omega)
    rw [show x + 2 * ((y :: s).length : Int) = x + 2 + 2 * (s.length : Int) from by simp; omega]
    simpa [mkB] using this
theorem markBlockS_ev {l : List S40} (hl : l.length < 8796093022) : Ev (fun k => laws_markBlockS.f k l 1) (1 + 2 * (l.length : Int), mkB 1 l.length) := by
  unfold laws_markBlockS.f
  simpa using markBlockS_l0 l [] 1 (by simpa using hl) (by omega) (by omega)
theorem heldBlockS_l0 : ∀ (n : Nat) (p : List S40) (x : Int), p.length + n < 8796093022 → 0 ≤ x → x + 2 * n < 4611686018427387904 → Ev (fun k => laws_heldBlockS.l0 k (p ++ mkB x n) x (p.length : Int)) (x + 2 * (n : Int)) := by
  intro n
  induction n with
  | zero =>
    intro p x _ _ _
    refine Ev.succ ?_
    simp only [laws_heldBlockS.l0]
    refine Ev.iteF (by simp [mkB]) ?_
    simpa using Ev.now x
  | succ n ih =>
    intro p x hl h0 h1
    have e2 : wrap64 (x + 1) = x + 1 := w64 (by omega) (by omega)
    have e3 : wrap64 (x + 1 + 1) = x + 2 := by rw [w64 (by omega) (by omega)]; omega
    have em : mkB x (n + 1) = (⟨x, x + 1⟩ : S40) :: mkB (x + 2) n := rfl
    have e1 : wrap64 ((p.length : Int) + 1) = ((p ++ [(⟨x, x + 1⟩ : S40)]).length : Int) := by rw [w64 (by omega) (by omega)]; simp
    rw [em]
    refine Ev.succ ?_
    simp only [laws_heldBlockS.l0]
    refine Ev.iteT (by simp; omega) (Ev.iteT (by omega) ?_)
    rw [rdB p _ _, e1, e2, e3]
    refine Ev.iteT rfl (Ev.iteT rfl ?_)
    have := ih (p ++ [(⟨x, x + 1⟩ : S40)]) (x + 2) (by simp; omega) (by omega) (by omega)
    rw [show x + 2 * ((n + 1 : Nat) : Int) = x + 2 + 2 * (n : Int) from by omega]
    simpa using this
theorem heldBlockS_ev {n : Nat} (hn : n < 8796093022) : Ev (fun k => laws_heldBlockS.f k (mkB 1 n) 1) (1 + 2 * (n : Int)) := by
  unfold laws_heldBlockS.f
  simpa using heldBlockS_l0 n [] 1 (by simpa using hn) (by omega) (by omega)
theorem waysTo_len (l : List S95) (hop : Int) : (waysTo l hop).1.length ≤ 64 := by
  unfold waysTo ofSpans
  split
  · split
    · assumption
    · simp
  · simp
theorem exactWays (l0 : List S98) (a : Int) (hl : l0.length ≤ maxLen) : ∃ k, laws_FnExactWaysTo.f k l0 a = some true := by
  have hm : l0.length ≤ 9223372036854775807 := hl
  refine Ev.rounds (r := true) ?_
  unfold laws_FnExactWaysTo.f laws_szWayS.f
  rw [w64 (x := 1048576 - (l0.length : Int)) (by omega) (by omega)]
  by_cases h : (1048576 : Int) - (l0.length : Int) < 0
  · rw [if_pos h]
    exact Ev.pre rfl (Ev.iteT (by omega) (Ev.now _))
  · rw [if_neg h]
    have hs : l0.length < 8796093022 := by omega
    have h1 := toWayS_ev hs
    have hs2 : (l0.map convW).length < 8796093022 := by simpa using hs
    have hI := waysToI_ev hs2 a
    have hS := waysToS_ev hs2 a
    have hw := waysTo_len (l0.map convW) a
    have hq := eqBlockS_ev (l := (waysTo (l0.map convW) a).1) (by omega)
    obtain ⟨out, hmk⟩ := markWayS_ev hs2
    have hmb := markBlockS_ev (l := (waysTo (l0.map convW) a).1) (by omega)
    have hhb := heldBlockS_ev (n := (waysTo (l0.map convW) a).1.length) (by omega)
    refine Ev.pre rfl (Ev.iteF h (Ev.bind h1 (Ev.bind hS (Ev.bind h1 (Ev.bind hI (Ev.bind hq (Ev.iteT rfl (Ev.succ ?_))))))))
    simp only [laws_FnExactWaysTo.j0, bne_self_eq_false]
    refine Ev.iteF (by decide) (Ev.bind h1 (Ev.bind (eqWayS_ev hs2) (Ev.iteT rfl (Ev.bind hmk (Ev.iteF (by simp only; omega) (Ev.bind hq (Ev.iteT rfl (Ev.succ ?_))))))))
    simp only [laws_FnExactWaysTo.j1]
    refine Ev.iteF (by decide) (Ev.bind hmb (Ev.bind hhb (Ev.iteF (by omega) (Ev.iteT rfl (Ev.bind h1 (Ev.bind hI (Ev.bind hq (Ev.iteT rfl (Ev.succ ?_)))))))))
    simp only [laws_FnExactWaysTo.j2]
    refine Ev.iteF (by simp) (Ev.bind hhb (Ev.iteF (by omega) (Ev.iteT rfl (Ev.now _))))
end Go.Proofs.Ythkjkmgbdahggaa.Sets
