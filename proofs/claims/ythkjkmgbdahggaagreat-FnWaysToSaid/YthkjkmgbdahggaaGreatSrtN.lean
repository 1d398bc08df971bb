/- slices.Sort and slices.Compact at a row of whole numbers of the call's own: the row behind them holds the numbers ascending, each once; nothing else that lay there has turned. On the condition that the row is the call's own. -/
import Derived.Test.YthkjkmgbdahggaaGreatShelfN
import Derived.Test.YthkjkmgbdahggaaGreatWWords
namespace Go.Proofs.YthkjkmgbdahggaaGreat.SrtN
open Go.RowKit Go.Proofs.YthkjkmgbdahggaaGreatW.PrintWords Go.Shelf Go.Sort
set_option linter.unusedVariables false
set_option linter.unusedSimpArgs false
def nrm (xs : List Int) : List Int := Lib.compact (xs.mergeSort fun x y => decide (x ≤ y))
theorem put_take (cur : Array Value) (d : List Int) {m : Nat} (hm : m ≤ d.length) (hd : d.length ≤ cur.size) : (putCells (Value.int .i64) 0 d.toArray cur).toList.take m = encs (Value.int .i64) (d.take m) := by
  apply List.ext_getElem?
  intro i
  unfold putCells encs
  by_cases h : i < m
  · have h1 : i < cur.size := by omega
    have h2 : i < d.length := by omega
    rw [List.getElem?_take_of_lt h, Array.getElem?_toList, Array.getElem?_mapIdx, Array.getElem?_eq_getElem h1, List.getElem?_map, List.getElem?_take_of_lt h, List.getElem?_eq_getElem h2]
    simp only [Option.map_some, List.size_toArray, Nat.zero_add, Nat.zero_le, true_and, if_pos h2, Nat.sub_zero]
    rw [getElem!_pos d.toArray i (by simpa using h2)]
    simp
  · rw [List.getElem?_eq_none (by simp; omega), List.getElem?_eq_none (by simp; omega)]
theorem row_block {w : World} {g : Nat} {cur : Array Value} {e : TypeId} {fr : Nat × Nat} (hh : w.heap[g]? = some (.cells cur e fr)) (d : Array Int) (n : Nat) (os : Array Obj) :
    (grow (putRow (Value.int .i64) (Sort.ahead w n) g 0 d) os).heap[g]? = some (.cells (putCells (Value.int .i64) 0 d cur) e fr) ∧
    (∀ k, k < w.heap.size → k ≠ g → (grow (putRow (Value.int .i64) (Sort.ahead w n) g 0 d) os).heap[k]? = w.heap[k]?) ∧ w.heap.size ≤ (grow (putRow (Value.int .i64) (Sort.ahead w n) g 0 d) os).heap.size := by
  have hlt : g < w.heap.size := by
    rcases Nat.lt_or_ge g w.heap.size with h | h
    · exact h
    · rw [Array.getElem?_eq_none h] at hh; cases hh
  have hs : (putRow (Value.int .i64) (Sort.ahead w n) g 0 d).heap = w.heap.modify g (onCells (putCells (Value.int .i64) 0 d)) := rfl
  unfold grow
  simp only [hs]
  refine ⟨?_, fun k hk hne => ?_, by simp⟩
  · rw [Array.getElem?_append_left (by simpa using hlt), Array.getElem?_modify, if_pos rfl, hh]; rfl
  · rw [Array.getElem?_append_left (by simpa using hk), Array.getElem?_modify, if_neg (fun h => hne h.symm)]
theorem holds_of {w : World} {g : Nat} {cur : Array Value} {e : TypeId} {xs : List Int} (hh : w.heap[g]? = some (.cells cur e (0, 0))) (ht : cur.toList.take xs.length = encs (Value.int .i64) xs) : Holds (Value.int .i64) w g 0 xs.toArray := by
  intro j hj
  have hj' : j < xs.length := by simpa using hj
  have h1 : cur[j]? = some (.int .i64 xs[j]) := by
    have h := congrArg (fun l => l[j]?) ht
    simp only [List.getElem?_take_of_lt hj'] at h
    rw [Array.getElem?_toList] at h
    rw [h]; unfold encs; rw [List.getElem?_map, List.getElem?_eq_getElem hj']; rfl
  have hx : (xs.toArray)[j]! = xs[j] := by rw [getElem!_pos xs.toArray j (by simpa using hj')]; simp
  rw [hx, Nat.zero_add]
  exact ⟨(blk_cell hh j).trans h1, blk_frozen hh j⟩
theorem R_put {w' : World} {base g m cap : Nat} {e : TypeId} {ok : Nat → Prop} {cur : Array Value} (d : List Int) (hok : ok g) (hg : base ≤ g) (hh : w'.heap[g]? = some (.cells (putCells (Value.int .i64) 0 d.toArray cur) e (0, 0))) (hm : m ≤ d.length) (hd : d.length ≤ cap) (hcap : cap ≤ maxLen) (hc : cur.size = cap) :
    (Kd.int .i64).R e w' base ok (.slice (some ⟨g, 0, none⟩) m cap) (d.take m) := by
  have hl : (d.take m).length = m := by simp; omega
  refine Kd.R_of_own ?_ (fun k hk => ?_)
  · refine ⟨by rw [encs_length, Nat.mul_one], .inr ⟨g, cap, _, by rw [hl], hg, hh, by rw [hl]; omega, hcap, by unfold putCells; simpa using hc, ?_⟩⟩
    rw [hl, Nat.mul_one]
    exact put_take cur d hm (by omega)
  · have : g = k := by simpa [Value.ownBlock] using hk
    subst this; exact hok
theorem below_put {w0 w w' : World} {base g : Nat} (hB : Below base w0 w) (hb : base ≤ w.heap.size) (hg : base ≤ g) (h1 : w'.os = w.os) (h2 : w'.tape = w.tape) (h3 : w'.output = w.output) (h4 : w.heap.size ≤ w'.heap.size) (h5 : ∀ k, k < w.heap.size → k ≠ g → w'.heap[k]? = w.heap[k]?) : Below base w0 w' :=
  ⟨h1.trans hB.os, h2.trans hB.tape, h3.trans hB.output, Nat.le_trans hB.size h4, fun k hk => (h5 k (by omega) (by omega)).trans (hB.block k hk)⟩
theorem sortN {w0 w : World} {base : Nat} {ok : Nat → Prop} {v : Value} {xs : List Int} (h : (Kd.int .i64).R 3 w base ok v xs) (hB : Below base w0 w) (hb : base ≤ w.heap.size) (hln : xs.length < 4611686018427387904) :
    Calls Tryz.prog 43 #[v] w fun e w' => e = .returned (.tuple #[]) ∧ (Kd.int .i64).R 3 w' base ok v (xs.mergeSort fun x y => decide (x ≤ y)) ∧ Below base w0 w' ∧ base ≤ w'.heap.size := by
  obtain ⟨h1, h2⟩ := Kd.own_of_R h
  rcases h2 with ⟨rfl, h0⟩ | ⟨g, cap, cur, rfl, hg, hh, hn, hcap, hc, ht⟩
  · obtain rfl : xs = [] := List.length_eq_zero_iff.1 h0
    refine (Any.slices_Sort_int_none Tryz.lays189 none 0 w).mono ?_
    rintro e w' ⟨rfl, rfl⟩
    exact ⟨rfl, by simpa using h, hB, hb⟩
  · have hok : ok g := h.1 g rfl
    have hlt : g < w.heap.size := by
      rcases Nat.lt_or_ge g w.heap.size with h' | h'
      · exact h'
      · rw [Array.getElem?_eq_none h'] at hh; cases hh
    rw [Nat.mul_one] at ht
    refine (Any.slices_Sort_int Tryz.lays189 g 0 cap xs w (holds_of hh ht) hlt hln).mono ?_
    rintro e w' ⟨rfl, n, os, rfl⟩
    have hl : (xs.mergeSort fun x y => decide (x ≤ y)).length = xs.length := List.length_mergeSort _
    obtain ⟨b1, b2, b3⟩ := row_block hh (xs.mergeSort fun x y => decide (x ≤ y)).toArray n os
    have hR := R_put (m := xs.length) (cap := cap) (xs.mergeSort fun x y => decide (x ≤ y)) hok hg b1 (by omega) (by omega) hcap (by rw [hc, Nat.mul_one])
    rw [List.take_of_length_le (by omega)] at hR
    exact ⟨rfl, hR, below_put hB hb hg rfl rfl rfl b3 b2, Nat.le_trans hb b3⟩
theorem compactN {w0 w : World} {base : Nat} {ok : Nat → Prop} {v : Value} {xs : List Int} (h : (Kd.int .i64).R 3 w base ok v xs) (hB : Below base w0 w) (hb : base ≤ w.heap.size) :
    Calls Tryz.prog 44 #[v] w fun e w' => ∃ v', e = .returned v' ∧ (Kd.int .i64).R 3 w' base ok v' (Lib.compact xs) ∧ Below base w0 w' := by
  obtain ⟨h1, h2⟩ := Kd.own_of_R h
  rcases h2 with ⟨rfl, h0⟩ | ⟨g, cap, cur, rfl, hg, hh, hn, hcap, hc, ht⟩
  · obtain rfl : xs = [] := List.length_eq_zero_iff.1 h0
    refine (Any.slices_Compact_int_empty Tryz.laysNm220 none 0 w).mono ?_
    rintro e w' ⟨rfl, rfl⟩
    exact ⟨_, rfl, h, hB⟩
  · have hok : ok g := h.1 g rfl
    rw [Nat.mul_one] at ht
    refine (Any.slices_Compact_int Tryz.laysNm220 g 0 cap xs w (holds_of hh ht) (by unfold maxLen at hcap; omega) hn).mono ?_
    rintro e w' ⟨rfl, n, rfl⟩
    have hle : (Lib.compact xs).length ≤ xs.length := by
      unfold Lib.compact Lib.compactUpTo
      rw [List.length_map]
      exact Nat.le_trans (List.length_filter_le _ _) (by simp)
    obtain ⟨b1, b2, b3⟩ := row_block hh (Lib.compact xs ++ List.replicate (xs.length - (Lib.compact xs).length) 0).toArray n #[]
    rw [grow_empty] at b1 b2 b3
    have hR := R_put (m := (Lib.compact xs).length) (cap := cap) (Lib.compact xs ++ List.replicate (xs.length - (Lib.compact xs).length) 0) hok hg b1 (by simp) (by simp; omega) hcap (by rw [hc, Nat.mul_one])
    rw [List.take_left] at hR
    exact ⟨_, rfl, hR, below_put hB hb hg rfl rfl rfl b3 b2⟩
end Go.Proofs.YthkjkmgbdahggaaGreat.SrtN
