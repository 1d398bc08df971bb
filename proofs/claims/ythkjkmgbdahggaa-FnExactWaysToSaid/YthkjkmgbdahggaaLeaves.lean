/- What comes in, opened to its leaves: the cells of a value of a struct type, structs within structs, each as a value of its leaf's type; a slice of such values. No conditions. -/
import Derived.Test.YthkjkmgbdahggaaRows
import Derived.WalkKit
import Derived.ProofKit
import Derived.OpenShut
import Derived.ShutString
import Derived.ChangeOld
import Derived.Below
import Derived.SizedLaws
import Derived.Deep.Slices
import Derived.Deep.Fields
import Derived.ChangeSame
namespace Go.Proofs.Ythkjkmgbdahggaa.Leaves
open Go.ChangeShapes Go.WideShapes Go.ChangeAt Go.RowKit Go.Deep
set_option linter.unusedVariables false
def leavesF (P : Program) (rec : TypeId → Option (List TypeId)) : List Field → Nat → Option (List TypeId)
  | [], _ => some []
  | f :: r, off => if f.offset = off then (match rec f.type with
    | some l => if P.cellsOf f.type = l.length then (leavesF P rec r (off + l.length)).map (l ++ ·) else none
    | none => none) else none
/-- The types of a value's cells. -/
def leavesOf (P : Program) : Nat → TypeId → Option (List TypeId)
  | 0, _ => none
  | n + 1, t => match P.underlying t with
    | some (.struct fs) => match leavesF P (leavesOf P n) fs.toList 0 with
      | some l => if P.cellsOf t = l.length then some l else none
      | none => none
    | some _ => if P.cellsOf t = 1 then some [t] else none
    | none => none
section
variable {H : Type} {enc : TypeId × Value → H} {P : Program} {w : World} {base : Nat} {spare : Nat → Bool} {held : Bool}
theorem leavesF_open {rec : TypeId → Option (List TypeId)} {n : Nat} {cs : List Value}
    (hrec : ∀ (t : TypeId) (ts : List TypeId) (cs' : List Value) (x : DataW H × List MemPlace), rec t = some ts → cs'.length = P.cellsOf t → DataW.trod enc P w base spare held n t cs' = some x → ts.length = cs'.length ∧ ∀ (j : Nat) (t' : TypeId), ts[j]? = some t' → ∃ (v : Value) (k : Nat) (y : DataW H × List MemPlace), cs'[j]? = some v ∧ DataW.trod enc P w base spare held k t' [v] = some y) :
    ∀ (r : List Field) (off : Nat) (ts : List TypeId), leavesF P rec r off = some ts → off + ts.length ≤ cs.length → (∀ f ∈ r, ∃ x, DataW.trod enc P w base spare held n f.type ((cs.drop f.offset).take (P.cellsOf f.type)) = some x) →
      ∀ (j : Nat) (t' : TypeId), ts[j]? = some t' → ∃ (v : Value) (k : Nat) (y : DataW H × List MemPlace), cs[off + j]? = some v ∧ DataW.trod enc P w base spare held k t' [v] = some y := by
  intro r
  induction r with
  | nil => intro off ts h _ _ j t' hj; simp [leavesF] at h; subst h; simp at hj
  | cons f r ih =>
    intro off ts h hle hx j t' hj
    unfold leavesF at h
    split at h
    · rename_i ho
      cases hr : rec f.type with
      | none => rw [hr] at h; simp at h
      | some l =>
        rw [hr] at h
        simp only at h
        split at h
        · rename_i hc
          obtain ⟨ts2, h2, rfl⟩ := Option.map_eq_some_iff.1 h
          simp only [List.length_append] at hle
          obtain ⟨x, hxx⟩ := hx f (by simp)
          rw [ho, hc] at hxx
          have hlen : ((cs.drop off).take l.length).length = l.length := by simp; omega
          obtain ⟨_, h4⟩ := hrec f.type l _ x hr (by rw [hlen, hc]) hxx
          rcases Nat.lt_or_ge j l.length with hjl | hjl
          · rw [List.getElem?_append_left hjl] at hj
            obtain ⟨v, k, y, hv, hy⟩ := h4 j t' hj
            refine ⟨v, k, y, ?_, hy⟩
            rw [List.getElem?_take_of_lt hjl, List.getElem?_drop] at hv
            exact hv
          · rw [List.getElem?_append_right hjl] at hj
            obtain ⟨v, k, y, hv, hy⟩ := ih (off + l.length) ts2 h2 (by omega) (fun g hg => hx g (by simp [hg])) (j - l.length) t' hj
            refine ⟨v, k, y, ?_, hy⟩
            rw [← hv]; congr 1; omega
        · cases h
    · cases h
theorem leaves_open : ∀ (m n : Nat) (t : TypeId) (ts : List TypeId) (cs : List Value) (x : DataW H × List MemPlace), leavesOf P m t = some ts → cs.length = P.cellsOf t → DataW.trod enc P w base spare held n t cs = some x →
    ts.length = cs.length ∧ ∀ (j : Nat) (t' : TypeId), ts[j]? = some t' → ∃ (v : Value) (k : Nat) (y : DataW H × List MemPlace), cs[j]? = some v ∧ DataW.trod enc P w base spare held k t' [v] = some y := by
  intro m
  induction m with
  | zero => intro n t ts cs x h; simp [leavesOf] at h
  | succ m ih =>
    intro n t ts cs x h hl ht
    unfold leavesOf at h
    cases hu : P.underlying t with
    | none => rw [hu] at h; simp at h
    | some d =>
      have leaf : (if P.cellsOf t = 1 then some [t] else none) = some ts → ts.length = cs.length ∧ ∀ (j : Nat) (t' : TypeId), ts[j]? = some t' → ∃ (v : Value) (k : Nat) (y : DataW H × List MemPlace), cs[j]? = some v ∧ DataW.trod enc P w base spare held k t' [v] = some y := by
        intro h
        split at h
        · rename_i h1
          obtain rfl := Option.some.inj h
          rw [h1] at hl
          obtain ⟨v, rfl⟩ := List.length_eq_one_iff.1 hl
          refine ⟨rfl, fun j t' hj => ?_⟩
          match j, hj with
          | 0, hj => obtain rfl := Option.some.inj hj; exact ⟨v, n, x, rfl, ht⟩
        · cases h
      cases d with
      | struct fs =>
        rw [hu] at h
        simp only at h
        cases hf : leavesF P (leavesOf P m) fs.toList 0 with
        | none => rw [hf] at h; simp at h
        | some l =>
          rw [hf] at h
          simp only at h
          split at h
          · rename_i hc
            obtain rfl := Option.some.inj h
            obtain ⟨xs, n', rfl, hy, hlen, hyl, hfd⟩ := DataW.trod_struct hu ht
            refine ⟨by rw [hl, hc], fun j t' hj => ?_⟩
            have := leavesF_open (rec := leavesOf P m) (n := n') (cs := cs) (fun t ts cs' x h1 h2 h3 => ih n' t ts cs' x h1 h2 h3) fs.toList 0 l hf (by omega) (fun f hfm => by
              obtain ⟨i, hi, e⟩ := List.getElem_of_mem hfm
              have hi' : i < fs.size := by simpa using hi
              have h5 := hfd i f (by rw [Array.getElem?_eq_getElem hi']; congr 1)
              have hix : i < xs.length := by omega
              exact ⟨xs[i], by rw [h5, List.getElem?_eq_getElem hix]⟩) j t' hj
            simpa using this
          · cases h
      | _ => rw [hu] at h; exact leaf h
/-- A slice of values of a struct type: each element's cells. -/
theorem open_slice_leaves {t e : TypeId} {m fuel : Nat} {ts : List TypeId} {cs : List Value} {x : DataW H × List MemPlace} (ht : P.underlying t = some (.slice e)) (he : leavesOf P m e = some ts) (hC : P.cellsOf e = ts.length)
    (h : DataW.trod enc P w base spare held fuel t cs = some x) :
    cs = [.slice none 0 0] ∨
    ∃ (a : Addr) (len cap m : Nat), cs = [.slice (some a) len cap] ∧ len ≤ cap ∧ cap ≤ maxLen ∧ len ≤ m ∧
      ∀ i, i < m → ∀ (j : Nat) (t' : TypeId), ts[j]? = some t' → ∃ (v : Value) (k : Nat) (y : DataW H × List MemPlace), w.cell? (a.add (i * ts.length + j)) = some v ∧ DataW.trod enc P w base spare held k t' [v] = some y := by
  rcases open_slice ht h with h0 | ⟨a, len, cap, m', n, D, Pl, hcs, hb, hl, hm, hmm, hx, hi⟩
  · exact .inl h0.1
  · refine .inr ⟨a, len, cap, m', hcs, hl, hm, by rw [hmm]; split <;> omega, fun i him j t' hj => ?_⟩
    obtain ⟨cs', hc, ht'⟩ := hi i him
    obtain ⟨_, hcl, hat⟩ := World.cells?_some hc
    obtain ⟨h1, h2⟩ := leaves_open m n e ts cs' _ he hcl ht'
    obtain ⟨v, k, y, hv, hy⟩ := h2 j t' hj
    have hjl : j < ts.length := (List.getElem?_eq_some_iff.1 hj).1
    have hcell := hat j (by omega)
    refine ⟨v, k, y, ?_, hy⟩
    rw [hC] at hcell
    rw [← Go.Deep.add_add, hcell, hv]
end
/-- The whole number of a cell. -/
def numOf : Option Value → Int
  | some (.int _ n) => n
  | _ => 0
end Go.Proofs.Ythkjkmgbdahggaa.Leaves
