/- laws.FnExactSetHas answers true: the row, from its printed contract and the plain law; the slice of blocks that comes in is opened to its cells. No conditions. -/
import Derived.Test.YthkjkmgbdahggaaRows
import Derived.Test.YthkjkmgbdahggaaExactHas
import Derived.WalkKit
import Derived.ProofKit
import Derived.OpenShut
import Derived.ShutString
import Derived.ChangeOld
import Derived.Below
import Derived.SizedLaws
import Derived.Deep.Slices
import Derived.Deep.Fields
import Derived.ChangeSame
namespace Go.Proofs.Ythkjkmgbdahggaa.fnExactSetHas
open Go.ChangeShapes Go.WideShapes Go.ChangeAt Go.RowKit Go.Deep
set_option linter.unusedVariables false
theorem own : ownKnob Try.prog.godebug = none := by kernel_rfl
theorem laidOut : laidOutB Try.prog = true := by kernel_rfl
section
variable {H : Type} {enc : TypeId × Value → H} {P : Program} {w : World} {base : Nat} {spare : Nat → Bool} {held : Bool}
/-- A slice of structs of one-cell fields: each element's cells. -/
theorem open_slice_fields {t e : TypeId} {fs : Array Field} {fuel : Nat} {cs : List Value} {x : DataW H × List MemPlace} (ht : P.underlying t = some (.slice e)) (he : P.underlying e = some (.struct fs))
    (hone : oneCellFields P fs = true) (hC : P.cellsOf e = fs.size) (h : DataW.trod enc P w base spare held fuel t cs = some x) :
    cs = [.slice none 0 0] ∨
    ∃ (a : Addr) (len cap m : Nat), cs = [.slice (some a) len cap] ∧ len ≤ cap ∧ cap ≤ maxLen ∧ len ≤ m ∧
      ∀ i, i < m → ∀ (j : Nat) (f : Field), fs[j]? = some f → ∃ (v : Value) (n : Nat) (y : DataW H × List MemPlace), w.cell? (a.add (i * fs.size + j)) = some v ∧ DataW.trod enc P w base spare held n f.type [v] = some y := by
  rcases open_slice ht h with h0 | ⟨a, len, cap, m, n, D, Pl, hcs, hb, hl, hm, hmm, hx, hi⟩
  · exact .inl h0.1
  · refine .inr ⟨a, len, cap, m, hcs, hl, hm, by rw [hmm]; split <;> omega, fun i him => ?_⟩
    obtain ⟨cs', hc, ht'⟩ := hi i him
    rw [hC] at hc
    obtain ⟨ys, n', hn', hy, hlen, hyl, hf⟩ := DataW.trod_struct he ht'
    obtain ⟨_, hcl, hat⟩ := World.cells?_some hc
    intro j f hj
    obtain ⟨ho, hk⟩ := hone_of hone j f hj
    have hjl : j < fs.size := (Array.getElem?_eq_some_iff.1 hj).1
    have hcell := hat j hjl
    have hv : cs'[j]? = some (cs'[j]'(by omega)) := List.getElem?_eq_getElem (by omega)
    have h1 := hf j f hj
    rw [ho, hk] at h1
    have hone' : (cs'.drop j).take 1 = [cs'[j]'(by omega)] := by
      rw [List.drop_eq_getElem_cons (by omega)]
      rfl
    rw [hone'] at h1
    have hys : ys[j]? = some (ys[j]'(by omega)) := List.getElem?_eq_getElem (by omega)
    refine ⟨_, _, _, ?_, h1.trans hys⟩
    rw [← Go.Deep.add_add, hcell, hv]
end
/-- The whole number of a cell. -/
def numOf : Option Value → Int
  | some (.int _ n) => n
  | _ => 0
set_option maxRecDepth 100000 in
theorem lifted (os : Os) (started : os.Started) (H : Type) (enc : TypeId × Value → H) :
  ReturnsInHanded {} Try.checked os 4 .any (Rows.fnExactSetHasSpec.pre6 enc Try.prog Try.f4 Rows.fnExactSetHasRow.domain false) (Rows.fnExactSetHasSpec.post enc Try.prog Try.f4 false true false false) := by
 refine returnsInHanded_of_change_sized (C := Try.checked) own started (by kernel_rfl) Try.func4
  (ChangeSpec.witness6 (enc := enc) (C := Try.checked) false ⟨#[], #[.slice none 0 0, .int .i64 0], []⟩ 8 (by kernel_rfl) (by kernel_rfl) (by kernel_rfl) (by kernel_rfl)) ?_
 intro W base args ds gs before hval0 hW hcnd hsz0 _
 have hval : ∀ (j : Nat) t v, Try.f4.params[j]? = some t → args[j]? = some v → Value.okWide Try.prog W .any base t v := hval0
 have hW' := hW
 obtain ⟨p, q, hA0, hV, rfl, hfz, hnd⟩ := hW
 have hA : DataW.TrodAll enc Try.prog W 0 (fun _ => true) true Try.f4.params.toList args.toList ds p := hA0
 rw [Try.params4] at hA hval
 obtain ⟨v0, vs0, d0, ds0, p0, q0, hargs, rfl, rfl, h0, r0⟩ := trodAll_cons hA
 obtain ⟨v1, vs1, d1, ds1, p1, q1, rfl, rfl, rfl, h1, r1⟩ := trodAll_cons r0
 obtain ⟨rfl, rfl, rfl⟩ := trodAll_nil r1
 obtain rfl : args = #[v0, v1] := by cases args; simp_all
 obtain ⟨rfl, rfl⟩ := trodVars_none hV
 obtain ⟨a0, len0, cap0, rfl⟩ := okWide_slice Try.underlying32 (hval 0 32 v0 rfl rfl)
 obtain ⟨a1, rfl, rfl, rfl, w1⟩ := open_int Try.underlying3 (hval 1 3 v1 rfl rfl) h1
 have k0 := h0
 have lt0 : ∀ x ∈ p0, x.block < W.heap.size := by obtain ⟨m, hm⟩ := k0; exact DataW.trod_lt m _ _ _ hm
 obtain ⟨l0, hlen, hread, hcap⟩ : ∃ l0 : List PE.S82, l0.length = len0 ∧ PE.k82.C W a0 len0 l0 ∧ (len0 ≤ cap0 ∧ len0 ≤ maxLen) := by
  obtain ⟨fuel, hf⟩ := h0
  rcases open_slice_fields Try.underlying32 Try.underlying82 (by kernel_rfl) (by kernel_rfl) hf with hcs | ⟨x, l, c, m, hcs, hl, hm, hlm, hcell⟩
  · simp [Value.cells] at hcs
    obtain ⟨rfl, rfl, rfl⟩ := hcs
    exact ⟨[], rfl, ⟨rfl, by simp, fun h => absurd h (Nat.lt_irrefl 0)⟩, Nat.le_refl _, by simp⟩
  · simp [Value.cells] at hcs
    obtain ⟨rfl, rfl, rfl⟩ := hcs
    have hmx : cap0 ≤ 9223372036854775807 := hm
    refine ⟨(List.range len0).map fun i => ⟨numOf (W.cell? (x.add (i * 2))), numOf (W.cell? (x.add (i * 2 + 1)))⟩, by simp, ⟨by simp, by omega, fun _ => ⟨x, rfl, ?_⟩⟩, hl, Nat.le_trans hl hm⟩
    intro j p hp
    rw [List.getElem?_map] at hp
    obtain ⟨i, hi, rfl⟩ := Option.map_eq_some_iff.1 hp
    have hj : j < len0 := by
      rcases Nat.lt_or_ge j len0 with h | h
      · exact h
      · rw [List.getElem?_eq_none (by simpa using h)] at hi; cases hi
    obtain rfl : j = i := by rw [List.getElem?_range hj] at hi; exact Option.some.inj hi
    obtain ⟨u0, n0, y0, c0, t0⟩ := hcell j (by omega) 0 _ rfl
    obtain ⟨u1, n1, y1, c1, t1⟩ := hcell j (by omega) 1 _ rfl
    obtain ⟨z0, hz0, _⟩ := DataW.trod_int Try.underlying3 t0
    obtain ⟨z1, hz1, _⟩ := DataW.trod_int Try.underlying3 t1
    obtain rfl : u0 = .int .i64 z0 := by simpa using hz0
    obtain rfl : u1 = .int .i64 z1 := by simpa using hz1
    have c0' : W.cell? (x.add (j * 2)) = some (.int .i64 z0) := c0
    have c1' : W.cell? (x.add (j * 2 + 1)) = some (.int .i64 z1) := c1
    refine ⟨[.int .i64 z0, .int .i64 z1], rfl, ?_, ?_⟩
    · rw [c0', c1']
      exact PE.k82_mk W ⟨z0, z1⟩
    · intro i u hu
      match i with
      | 0 => obtain rfl := Option.some.inj hu; exact c0'
      | 1 => obtain rfl := Option.some.inj hu; exact c1'
      | i + 2 => cases hu
 clear hA0 hval0 hsz0
 obtain ⟨k, hk⟩ := Sets.exactHas l0 a1 (by rw [hlen]; exact hcap.2)
 subst hlen
 refine (PE.laws_FnExactSetHas.calls k a0 cap0 l0 a1 true W hread hcap.1 hk).mono fun e W' ⟨he, bel⟩ => ?_
 subst he
 exact ⟨_, rfl, _, _, _, [], _, [], hW', trodAll_mk1 (shut_bool Try.underlying4 _), (trodAll_cons_mk (Below.trod laidOut (by kernel_rfl) (of_decide_eq_true (by kernel_rfl)) k0 bel lt0) (trodAll_cons_mk (shut_int Try.underlying3 w1) trodAll_mk0)), rfl, bel.frame _, fun h => by cases h⟩
theorem over : Rows.fnExactSetHasRow.holds Try.pinned (OpenSpec.ofChange Rows.fnExactSetHasSpec) :=
 OpenClaim.holds_of_wide 4 Try.f4 rfl rfl rfl rfl rfl rfl rfl ⟨rfl, rfl, rfl, rfl, rfl⟩ rfl rfl rfl rfl rfl (by kernel_rfl) Try.func4 (by kernel_rfl)
  (of_decide_eq_true (by kernel_rfl)) (by unfold Func.isWrapper; first | (rw [if_pos (by decide +kernel)]; kernel_rfl) | (rw [if_neg (by decide +kernel)]; exact ⟨rfl, rfl⟩))
  (fun os started H enc _ => lifted os started H enc)
theorem proved : Rows.FnExactSetHasSaid := over
#print axioms proved
end Go.Proofs.Ythkjkmgbdahggaa.fnExactSetHas
namespace Go.Proofs.Ythkjkmgbdahggaa
/-- The row, under a short name, for the claim. -/
theorem fnExactSetHas_holds : Rows.FnExactSetHasSaid := fnExactSetHas.proved
end Go.Proofs.Ythkjkmgbdahggaa
