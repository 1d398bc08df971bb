/- laws.FnExactWaysTo answers true: the row, from its printed contract and the plain law; the table of routes that comes in is opened to its cells. No conditions. -/
import Derived.Test.YthkjkmgbdahggaaRows
import Derived.Test.YthkjkmgbdahggaaLeaves
import Derived.Test.YthkjkmgbdahggaaExactWays
import Derived.WalkKit
import Derived.ProofKit
import Derived.OpenShut
import Derived.ShutString
import Derived.ChangeOld
import Derived.Below
import Derived.SizedLaws
import Derived.Deep.Slices
import Derived.Deep.Fields
import Derived.ChangeSame
namespace Go.Proofs.Ythkjkmgbdahggaa.fnExactWaysTo
open Go.Proofs.Ythkjkmgbdahggaa.Leaves Go.ChangeShapes Go.WideShapes Go.ChangeAt Go.RowKit Go.Deep
set_option linter.unusedVariables false
theorem own : ownKnob Try.prog.godebug = none := by kernel_rfl
theorem laidOut : laidOutB Try.prog = true := by kernel_rfl
set_option maxRecDepth 100000 in
theorem lifted (os : Os) (started : os.Started) (H : Type) (enc : TypeId × Value → H) :
  ReturnsInHanded {} Try.checked os 8 .any (Rows.fnExactWaysToSpec.pre6 enc Try.prog Try.f8 Rows.fnExactWaysToRow.domain false) (Rows.fnExactWaysToSpec.post enc Try.prog Try.f8 false true false false) := by
 refine returnsInHanded_of_change_sized (C := Try.checked) own started (by kernel_rfl) Try.func8
  (ChangeSpec.witness6 (enc := enc) (C := Try.checked) false ⟨#[], #[.slice none 0 0, .int .i64 0], []⟩ 8 (by kernel_rfl) (by kernel_rfl) (by kernel_rfl) (by kernel_rfl)) ?_
 intro W base args ds gs before hval0 hW hcnd hsz0 _
 have hval : ∀ (j : Nat) t v, Try.f8.params[j]? = some t → args[j]? = some v → Value.okWide Try.prog W .any base t v := hval0
 have hW' := hW
 obtain ⟨p, q, hA0, hV, rfl, hfz, hnd⟩ := hW
 have hA : DataW.TrodAll enc Try.prog W 0 (fun _ => true) true Try.f8.params.toList args.toList ds p := hA0
 rw [Try.params8] at hA hval
 obtain ⟨v0, vs0, d0, ds0, p0, q0, hargs, rfl, rfl, h0, r0⟩ := trodAll_cons hA
 obtain ⟨v1, vs1, d1, ds1, p1, q1, rfl, rfl, rfl, h1, r1⟩ := trodAll_cons r0
 obtain ⟨rfl, rfl, rfl⟩ := trodAll_nil r1
 obtain rfl : args = #[v0, v1] := by cases args; simp_all
 obtain ⟨rfl, rfl⟩ := trodVars_none hV
 obtain ⟨a0, len0, cap0, rfl⟩ := okWide_slice Try.underlying51 (hval 0 51 v0 rfl rfl)
 obtain ⟨a1, rfl, rfl, rfl, w1⟩ := open_int Try.underlying3 (hval 1 3 v1 rfl rfl) h1
 have k0 := h0
 have lt0 : ∀ x ∈ p0, x.block < W.heap.size := by obtain ⟨m, hm⟩ := k0; exact DataW.trod_lt m _ _ _ hm
 obtain ⟨l0, hlen, hread, hcap⟩ : ∃ l0 : List PW.S98, l0.length = len0 ∧ PW.k98.C W a0 len0 l0 ∧ (len0 ≤ cap0 ∧ len0 ≤ maxLen) := by
  obtain ⟨fuel, hf⟩ := h0
  rcases open_slice_leaves (m := 8) (ts := [3, 3, 3]) Try.underlying51 (by kernel_rfl) (by kernel_rfl) hf with hcs | ⟨x, l, c, m, hcs, hl, hm, hlm, hcell⟩
  · simp [Value.cells] at hcs
    obtain ⟨rfl, rfl, rfl⟩ := hcs
    exact ⟨[], rfl, ⟨rfl, by simp, fun h => absurd h (Nat.lt_irrefl 0)⟩, Nat.le_refl _, by simp⟩
  · simp [Value.cells] at hcs
    obtain ⟨rfl, rfl, rfl⟩ := hcs
    have hmx : cap0 ≤ 9223372036854775807 := hm
    refine ⟨(List.range len0).map fun i => ⟨⟨numOf (W.cell? (x.add (i * 3))), numOf (W.cell? (x.add (i * 3 + 1)))⟩, numOf (W.cell? (x.add (i * 3 + 2)))⟩, by simp, ⟨by simp, by omega, fun _ => ⟨x, rfl, ?_⟩⟩, hl, Nat.le_trans hl hm⟩
    intro j p hp
    rw [List.getElem?_map] at hp
    obtain ⟨i, hi, rfl⟩ := Option.map_eq_some_iff.1 hp
    have hj : j < len0 := by
      rcases Nat.lt_or_ge j len0 with h | h
      · exact h
      · rw [List.getElem?_eq_none (by simpa using h)] at hi; cases hi
    obtain rfl : j = i := by rw [List.getElem?_range hj] at hi; exact Option.some.inj hi
    obtain ⟨u0, n0, y0, c0, t0⟩ := hcell j (by omega) 0 _ rfl
    obtain ⟨u1, n1, y1, c1, t1⟩ := hcell j (by omega) 1 _ rfl
    obtain ⟨u2, n2, y2, c2, t2⟩ := hcell j (by omega) 2 _ rfl
    obtain ⟨z0, hz0, _⟩ := DataW.trod_int Try.underlying3 t0
    obtain ⟨z1, hz1, _⟩ := DataW.trod_int Try.underlying3 t1
    obtain ⟨z2, hz2, _⟩ := DataW.trod_int Try.underlying3 t2
    obtain rfl : u0 = .int .i64 z0 := by simpa using hz0
    obtain rfl : u1 = .int .i64 z1 := by simpa using hz1
    obtain rfl : u2 = .int .i64 z2 := by simpa using hz2
    have c0' : W.cell? (x.add (j * 3)) = some (.int .i64 z0) := c0
    have c1' : W.cell? (x.add (j * 3 + 1)) = some (.int .i64 z1) := c1
    have c2' : W.cell? (x.add (j * 3 + 2)) = some (.int .i64 z2) := c2
    refine ⟨[.int .i64 z0, .int .i64 z1, .int .i64 z2], rfl, ?_, ?_⟩
    · rw [c0', c1', c2']
      exact PW.k98_mk W ⟨⟨z0, z1⟩, z2⟩
    · intro i u hu
      match i with
      | 0 => obtain rfl := Option.some.inj hu; exact c0'
      | 1 => obtain rfl := Option.some.inj hu; exact c1'
      | 2 => obtain rfl := Option.some.inj hu; exact c2'
      | i + 3 => cases hu
 clear hA0 hval0 hsz0
 obtain ⟨k, hk⟩ := Sets.exactWays l0 a1 (by rw [hlen]; exact hcap.2)
 subst hlen
 refine (PW.laws_FnExactWaysTo.calls k a0 cap0 l0 a1 true W hread hcap.1 hk).mono fun e W' ⟨he, bel⟩ => ?_
 subst he
 exact ⟨_, rfl, _, _, _, [], _, [], hW', trodAll_mk1 (shut_bool Try.underlying4 _), (trodAll_cons_mk (Below.trod laidOut (by kernel_rfl) (of_decide_eq_true (by kernel_rfl)) k0 bel lt0) (trodAll_cons_mk (shut_int Try.underlying3 w1) trodAll_mk0)), rfl, bel.frame _, fun h => by cases h⟩
theorem over : Rows.fnExactWaysToRow.holds Try.pinned (OpenSpec.ofChange Rows.fnExactWaysToSpec) :=
 OpenClaim.holds_of_wide 8 Try.f8 rfl rfl rfl rfl rfl rfl rfl ⟨rfl, rfl, rfl, rfl, rfl⟩ rfl rfl rfl rfl rfl (by kernel_rfl) Try.func8 (by kernel_rfl)
  (of_decide_eq_true (by kernel_rfl)) (by unfold Func.isWrapper; first | (rw [if_pos (by decide +kernel)]; kernel_rfl) | (rw [if_neg (by decide +kernel)]; exact ⟨rfl, rfl⟩))
  (fun os started H enc _ => lifted os started H enc)
theorem proved : Rows.FnExactWaysToSaid := over
#print axioms proved
end Go.Proofs.Ythkjkmgbdahggaa.fnExactWaysTo
namespace Go.Proofs.Ythkjkmgbdahggaa
/-- The row, under a short name, for the claim. -/
theorem fnExactWaysTo_holds : Rows.FnExactWaysToSaid := fnExactWaysTo.proved
end Go.Proofs.Ythkjkmgbdahggaa
