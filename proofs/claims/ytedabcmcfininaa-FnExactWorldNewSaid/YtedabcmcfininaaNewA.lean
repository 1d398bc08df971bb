/- laws.FnExactWorldNew, walked by hand: it answers true. No conditions. -/
import Derived.Test.YtedabcmcfininaaPAx3
namespace Go.Proofs.Ytedabcmcfininaa.New
open Go.RowKit Go.Proofs.Ytedabcmcfininaa.PA Go.Proofs.YtedabcmcfininaaW.PrintWords Go.Proofs.YtedabcmcfininaaW.PrintLast Go.Proofs.YtedabcmcfininaaW.PrintMore
set_option linter.unusedVariables false
set_option maxRecDepth 100000
set_option maxHeartbeats 4000000
theorem c0 {α : Type} (d : Kd α) (w : World) (A : Option Addr) : d.C w A ([] : List α).length [] := ⟨rfl, by simp, fun h => absurd h (Nat.lt_irrefl 0)⟩
/-- An empty world, whichever its slices. -/
def Emp (v : Value) : Prop := ∃ (A1 A3 A4 A5 A7 A9 A10 A11 A12 A13 A14 : Option Addr) (c1 c3 c4 c5 c7 c9 c10 c11 c12 c13 c14 : Nat), v = .agg #[.int .i64 0, .slice A1 0 c1, .int .i64 4, .slice A3 0 c3, .slice A4 0 c4, .slice A5 0 c5, .int .i64 0, .slice A7 0 c7, .int .i64 4, .slice A9 0 c9, .slice A10 0 c10, .slice A11 0 c11, .slice A12 0 c12, .slice A13 0 c13, .slice A14 0 c14]
theorem implNew (w : World) : Calls Try.prog 7 #[] w fun e w' => (∃ v, Emp v ∧ e = .returned v) ∧ Below w.heap.size w w' := by
  refine (impl_WorldNew.calls 0 [] 4 [] [] [] 0 [] 4 [] [] [] [] [] [] w rfl).mono ?_
  rintro e w' ⟨v1, v3, v4, v5, v7, v9, v10, v11, v12, v13, v14, rfl, h1, h3, h4, h5, h7, h9, h10, h11, h12, h13, h14, hb⟩
  obtain ⟨A1, c1, rfl⟩ := Kd.R_slice h1
  obtain ⟨A3, c3, rfl⟩ := Kd.R_slice h3
  obtain ⟨A4, c4, rfl⟩ := Kd.S_slice h4
  obtain ⟨A5, c5, rfl⟩ := Kd.S_slice h5
  obtain ⟨A7, c7, rfl⟩ := Kd.R_slice h7
  obtain ⟨A9, c9, rfl⟩ := Kd.R_slice h9
  obtain ⟨A10, c10, rfl⟩ := Kd.S_slice h10
  obtain ⟨A11, c11, rfl⟩ := Kd.S_slice h11
  obtain ⟨A12, c12, rfl⟩ := Kd.R_slice h12
  obtain ⟨A13, c13, rfl⟩ := Kd.R_slice h13
  obtain ⟨A14, c14, rfl⟩ := Kd.R_slice h14
  exact ⟨⟨_, ⟨A1, A3, A4, A5, A7, A9, A10, A11, A12, A13, A14, c1, c3, c4, c5, c7, c9, c10, c11, c12, c13, c14, rfl⟩, rfl⟩, hb⟩
theorem specNew (w : World) : Calls Try.prog 6 #[] w fun e w' => (∃ v, Emp v ∧ e = .returned v) ∧ Below w.heap.size w w' := by
  refine (spec_WorldNew.calls 0 [] 4 [] [] [] 0 [] 4 [] [] [] [] [] [] w rfl).mono ?_
  rintro e w' ⟨v1, v3, v4, v5, v7, v9, v10, v11, v12, v13, v14, rfl, h1, h3, h4, h5, h7, h9, h10, h11, h12, h13, h14, hb⟩
  obtain ⟨A1, c1, rfl⟩ := Kd.R_slice h1
  obtain ⟨A3, c3, rfl⟩ := Kd.R_slice h3
  obtain ⟨A4, c4, rfl⟩ := Kd.S_slice h4
  obtain ⟨A5, c5, rfl⟩ := Kd.S_slice h5
  obtain ⟨A7, c7, rfl⟩ := Kd.R_slice h7
  obtain ⟨A9, c9, rfl⟩ := Kd.R_slice h9
  obtain ⟨A10, c10, rfl⟩ := Kd.S_slice h10
  obtain ⟨A11, c11, rfl⟩ := Kd.S_slice h11
  obtain ⟨A12, c12, rfl⟩ := Kd.R_slice h12
  obtain ⟨A13, c13, rfl⟩ := Kd.R_slice h13
  obtain ⟨A14, c14, rfl⟩ := Kd.R_slice h14
  exact ⟨⟨_, ⟨A1, A3, A4, A5, A7, A9, A10, A11, A12, A13, A14, c1, c3, c4, c5, c7, c9, c10, c11, c12, c13, c14, rfl⟩, rfl⟩, hb⟩
theorem eqNew {v u : Value} (hv : Emp v) (hu : Emp u) (w : World) : Calls Try.prog 8 #[v, u] w fun e w' => e = .returned (.bool true) ∧ Below w.heap.size w w' := by
  obtain ⟨A1, A3, A4, A5, A7, A9, A10, A11, A12, A13, A14, c1, c3, c4, c5, c7, c9, c10, c11, c12, c13, c14, rfl⟩ := hv
  obtain ⟨B1, B3, B4, B5, B7, B9, B10, B11, B12, B13, B14, d1, d3, d4, d5, d7, d9, d10, d11, d12, d13, d14, rfl⟩ := hu
  exact laws_eqWorld.calls 0 A1 c1 [] 4 A3 c3 [] A4 c4 [] A5 c5 [] 0 A7 c7 [] 4 A9 c9 [] A10 c10 [] A11 c11 [] A12 c12 [] A13 c13 [] A14 c14 []
    0 B1 d1 [] 4 B3 d3 [] B4 d4 [] B5 d5 [] 0 B7 d7 [] 4 B9 d9 [] B10 d10 [] B11 d11 [] B12 d12 [] B13 d13 [] B14 d14 [] true w
    (c0 _ _ _) (Nat.zero_le _) (c0 _ _ _) (Nat.zero_le _) (c0 _ _ _) (Nat.zero_le _) (c0 _ _ _) (Nat.zero_le _) (c0 _ _ _) (Nat.zero_le _) (c0 _ _ _) (Nat.zero_le _) (c0 _ _ _) (Nat.zero_le _) (c0 _ _ _) (Nat.zero_le _) (c0 _ _ _) (Nat.zero_le _) (c0 _ _ _) (Nat.zero_le _) (c0 _ _ _) (Nat.zero_le _)
    (c0 _ _ _) (Nat.zero_le _) (c0 _ _ _) (Nat.zero_le _) (c0 _ _ _) (Nat.zero_le _) (c0 _ _ _) (Nat.zero_le _) (c0 _ _ _) (Nat.zero_le _) (c0 _ _ _) (Nat.zero_le _) (c0 _ _ _) (Nat.zero_le _) (c0 _ _ _) (Nat.zero_le _) (c0 _ _ _) (Nat.zero_le _) (c0 _ _ _) (Nat.zero_le _) (c0 _ _ _) (Nat.zero_le _) rfl
theorem markNew {v : Value} (hv : Emp v) (w : World) : Calls Try.prog 9 #[v, .int .i64 1] w fun e w' => e = .returned (.int .i64 1) ∧ Below w.heap.size w w' := by
  obtain ⟨A1, A3, A4, A5, A7, A9, A10, A11, A12, A13, A14, c1, c3, c4, c5, c7, c9, c10, c11, c12, c13, c14, rfl⟩ := hv
  exact laws_markWorld.calls 0 A1 c1 [] 4 A3 c3 [] A4 c4 [] A5 c5 [] 0 A7 c7 [] 4 A9 c9 [] A10 c10 [] A11 c11 [] A12 c12 [] A13 c13 [] A14 c14 [] 1 1 w
    (c0 _ _ _) (Nat.zero_le _) (c0 _ _ _) (Nat.zero_le _) (c0 _ _ _) (Nat.zero_le _) (c0 _ _ _) (Nat.zero_le _) (c0 _ _ _) (Nat.zero_le _) (c0 _ _ _) (Nat.zero_le _) (c0 _ _ _) (Nat.zero_le _) (c0 _ _ _) (Nat.zero_le _) (c0 _ _ _) (Nat.zero_le _) (c0 _ _ _) (Nat.zero_le _) (c0 _ _ _) (Nat.zero_le _) rfl
theorem heldNew {v : Value} (hv : Emp v) (w : World) : Calls Try.prog 10 #[v, .int .i64 1] w fun e w' => e = .returned (.int .i64 1) ∧ Below w.heap.size w w' := by
  obtain ⟨A1, A3, A4, A5, A7, A9, A10, A11, A12, A13, A14, c1, c3, c4, c5, c7, c9, c10, c11, c12, c13, c14, rfl⟩ := hv
  exact laws_heldWorld.calls 0 A1 c1 [] 4 A3 c3 [] A4 c4 [] A5 c5 [] 0 A7 c7 [] 4 A9 c9 [] A10 c10 [] A11 c11 [] A12 c12 [] A13 c13 [] A14 c14 [] 1 1 w
    (c0 _ _ _) (Nat.zero_le _) (c0 _ _ _) (Nat.zero_le _) (c0 _ _ _) (Nat.zero_le _) (c0 _ _ _) (Nat.zero_le _) (c0 _ _ _) (Nat.zero_le _) (c0 _ _ _) (Nat.zero_le _) (c0 _ _ _) (Nat.zero_le _) (c0 _ _ _) (Nat.zero_le _) (c0 _ _ _) (Nat.zero_le _) (c0 _ _ _) (Nat.zero_le _) (c0 _ _ _) (Nat.zero_le _) rfl
theorem blk_new (w : World) (o : Obj) : (w.alloc o).heap[w.heap.size]? = some o := by
  show (w.heap.push o)[w.heap.size]? = some o
  exact Array.getElem?_push_size
/-- A block of fifteen cells. -/
theorem cells15 {w : World} {g : Nat} {v0 v1 v2 v3 v4 v5 v6 v7 v8 v9 v10 v11 v12 v13 v14 : Value} (h : w.heap[g]? = some (.cells #[v0, v1, v2, v3, v4, v5, v6, v7, v8, v9, v10, v11, v12, v13, v14] 32 (0, 0))) : w.cell? ⟨g, 0, none⟩ = some v0 ∧ w.cell? ⟨g, 1, none⟩ = some v1 ∧ w.cell? ⟨g, 2, none⟩ = some v2 ∧ w.cell? ⟨g, 3, none⟩ = some v3 ∧ w.cell? ⟨g, 4, none⟩ = some v4 ∧ w.cell? ⟨g, 5, none⟩ = some v5 ∧ w.cell? ⟨g, 6, none⟩ = some v6 ∧ w.cell? ⟨g, 7, none⟩ = some v7 ∧ w.cell? ⟨g, 8, none⟩ = some v8 ∧ w.cell? ⟨g, 9, none⟩ = some v9 ∧ w.cell? ⟨g, 10, none⟩ = some v10 ∧ w.cell? ⟨g, 11, none⟩ = some v11 ∧ w.cell? ⟨g, 12, none⟩ = some v12 ∧ w.cell? ⟨g, 13, none⟩ = some v13 ∧ w.cell? ⟨g, 14, none⟩ = some v14 :=
  ⟨(blk_cell h 0).trans rfl, (blk_cell h 1).trans rfl, (blk_cell h 2).trans rfl, (blk_cell h 3).trans rfl, (blk_cell h 4).trans rfl, (blk_cell h 5).trans rfl, (blk_cell h 6).trans rfl, (blk_cell h 7).trans rfl, (blk_cell h 8).trans rfl, (blk_cell h 9).trans rfl, (blk_cell h 10).trans rfl, (blk_cell h 11).trans rfl, (blk_cell h 12).trans rfl, (blk_cell h 13).trans rfl, (blk_cell h 14).trans rfl⟩
theorem lt_of {w : World} {g : Nat} {o : Obj} (h : w.heap[g]? = some o) : g < w.heap.size := by
  rcases Nat.lt_or_ge g w.heap.size with h' | h'
  · exact h'
  · rw [Array.getElem?_eq_none h'] at h; cases h
theorem keep {w w' : World} {g : Nat} {o : Obj} (h : w.heap[g]? = some o) (hb : Below w.heap.size w w') : w'.heap[g]? = some o := by
  rw [hb.block g (lt_of h)]; exact h
theorem keepA {w : World} {g : Nat} {o o' : Obj} (h : w.heap[g]? = some o) : (w.alloc o').heap[g]? = some o := by
  show (w.heap.push o')[g]? = some o
  rw [Array.getElem?_push, if_neg (Nat.ne_of_lt (lt_of h))]; exact h
theorem walk (w : World) : Calls Try.prog 3 #[] w fun e w' => e = .returned (.bool true) ∧ Below w.heap.size w w' := by
  have hu := Try.underlying32
  go_enter Try.func3, Try.ntmps3
  go_wp2_with (go_at_call 6; refine (specNew _).mono ?_; rintro e1 w1 ⟨⟨v1, ⟨A1, A3, A4, A5, A7, A9, A10, A11, A12, A13, A14, c1, c3, c4, c5, c7, c9, c10, c11, c12, c13, c14, rfl⟩, rfl⟩, hb1⟩)
  have hg1 := blk_new w1 (.cells #[.int .i64 0, .slice A1 0 c1, .int .i64 4, .slice A3 0 c3, .slice A4 0 c4, .slice A5 0 c5, .int .i64 0, .slice A7 0 c7, .int .i64 4, .slice A9 0 c9, .slice A10 0 c10, .slice A11 0 c11, .slice A12 0 c12, .slice A13 0 c13, .slice A14 0 c14] 32 (0, 0))
  have hB1 : Below w.heap.size w (w1.alloc (.cells #[.int .i64 0, .slice A1 0 c1, .int .i64 4, .slice A3 0 c3, .slice A4 0 c4, .slice A5 0 c5, .int .i64 0, .slice A7 0 c7, .int .i64 4, .slice A9 0 c9, .slice A10 0 c10, .slice A11 0 c11, .slice A12 0 c12, .slice A13 0 c13, .slice A14 0 c14] 32 (0, 0))) := (hb1).alloc (hb1).size _
  generalize w1.alloc (.cells #[.int .i64 0, .slice A1 0 c1, .int .i64 4, .slice A3 0 c3, .slice A4 0 c4, .slice A5 0 c5, .int .i64 0, .slice A7 0 c7, .int .i64 4, .slice A9 0 c9, .slice A10 0 c10, .slice A11 0 c11, .slice A12 0 c12, .slice A13 0 c13, .slice A14 0 c14] 32 (0, 0)) = W1 at *
  generalize w1.heap.size = g1 at *
  clear hb1
  as_aux_lemma =>
    go_wp2_with (go_at_call 7; refine (implNew _).mono ?_; rintro e2 w2 ⟨⟨v2, ⟨B1, B3, B4, B5, B7, B9, B10, B11, B12, B13, B14, d1, d3, d4, d5, d7, d9, d10, d11, d12, d13, d14, rfl⟩, rfl⟩, hb2⟩; have ha1 := keep hg1 hb2; obtain ⟨p0, p1, p2, p3, p4, p5, p6, p7, p8, p9, p10, p11, p12, p13, p14⟩ := cells15 ha1; have plt := lt_of ha1; have pne := Nat.ne_of_lt plt)
    have hb2' := hB1.trans (hb2.mono hB1.size)
    have hg1 := keepA (o' := .cells #[.int .i64 0, .slice B1 0 d1, .int .i64 4, .slice B3 0 d3, .slice B4 0 d4, .slice B5 0 d5, .int .i64 0, .slice B7 0 d7, .int .i64 4, .slice B9 0 d9, .slice B10 0 d10, .slice B11 0 d11, .slice B12 0 d12, .slice B13 0 d13, .slice B14 0 d14] 32 (0, 0)) ha1
    have hg2 := blk_new w2 (.cells #[.int .i64 0, .slice B1 0 d1, .int .i64 4, .slice B3 0 d3, .slice B4 0 d4, .slice B5 0 d5, .int .i64 0, .slice B7 0 d7, .int .i64 4, .slice B9 0 d9, .slice B10 0 d10, .slice B11 0 d11, .slice B12 0 d12, .slice B13 0 d13, .slice B14 0 d14] 32 (0, 0))
    have hB2 : Below w.heap.size w (w2.alloc (.cells #[.int .i64 0, .slice B1 0 d1, .int .i64 4, .slice B3 0 d3, .slice B4 0 d4, .slice B5 0 d5, .int .i64 0, .slice B7 0 d7, .int .i64 4, .slice B9 0 d9, .slice B10 0 d10, .slice B11 0 d11, .slice B12 0 d12, .slice B13 0 d13, .slice B14 0 d14] 32 (0, 0))) := (hb2').alloc (hb2').size _
    generalize w2.alloc (.cells #[.int .i64 0, .slice B1 0 d1, .int .i64 4, .slice B3 0 d3, .slice B4 0 d4, .slice B5 0 d5, .int .i64 0, .slice B7 0 d7, .int .i64 4, .slice B9 0 d9, .slice B10 0 d10, .slice B11 0 d11, .slice B12 0 d12, .slice B13 0 d13, .slice B14 0 d14] 32 (0, 0)) = W2 at *
    generalize w2.heap.size = g2 at *
    clear p0 p1 p2 p3 p4 p5 p6 p7 p8 p9 p10 p11 p12 p13 p14 pne plt
    clear hb2 hb2' hB1 ha1
    as_aux_lemma =>
      have q8 := eqNew (v := .agg #[.int .i64 0, .slice B1 0 d1, .int .i64 4, .slice B3 0 d3, .slice B4 0 d4, .slice B5 0 d5, .int .i64 0, .slice B7 0 d7, .int .i64 4, .slice B9 0 d9, .slice B10 0 d10, .slice B11 0 d11, .slice B12 0 d12, .slice B13 0 d13, .slice B14 0 d14]) (u := .agg #[.int .i64 0, .slice A1 0 c1, .int .i64 4, .slice A3 0 c3, .slice A4 0 c4, .slice A5 0 c5, .int .i64 0, .slice A7 0 c7, .int .i64 4, .slice A9 0 c9, .slice A10 0 c10, .slice A11 0 c11, .slice A12 0 c12, .slice A13 0 c13, .slice A14 0 c14]) ⟨_, _, _, _, _, _, _, _, _, _, _, _, _, _, _, _, _, _, _, _, _, _, rfl⟩ ⟨_, _, _, _, _, _, _, _, _, _, _, _, _, _, _, _, _, _, _, _, _, _, rfl⟩
      have q9 := markNew (v := .agg #[.int .i64 0, .slice B1 0 d1, .int .i64 4, .slice B3 0 d3, .slice B4 0 d4, .slice B5 0 d5, .int .i64 0, .slice B7 0 d7, .int .i64 4, .slice B9 0 d9, .slice B10 0 d10, .slice B11 0 d11, .slice B12 0 d12, .slice B13 0 d13, .slice B14 0 d14]) ⟨_, _, _, _, _, _, _, _, _, _, _, _, _, _, _, _, _, _, _, _, _, _, rfl⟩
      have q10 := heldNew (v := .agg #[.int .i64 0, .slice B1 0 d1, .int .i64 4, .slice B3 0 d3, .slice B4 0 d4, .slice B5 0 d5, .int .i64 0, .slice B7 0 d7, .int .i64 4, .slice B9 0 d9, .slice B10 0 d10, .slice B11 0 d11, .slice B12 0 d12, .slice B13 0 d13, .slice B14 0 d14]) ⟨_, _, _, _, _, _, _, _, _, _, _, _, _, _, _, _, _, _, _, _, _, _, rfl⟩
      go_wp2_with (go_at_call 8; refine (q8 _).mono ?_; rintro e3 w3 ⟨rfl, hb3⟩; have hk2 := keep hg2 hb3; obtain ⟨q0, q1, q2, q3, q4, q5, q6, q7, q8, q9, q10, q11, q12, q13, q14⟩ := cells15 hk2; have qlt := lt_of hk2; have qne := Nat.ne_of_lt qlt)
      have hB3 := hB2.trans (hb3.mono hB2.size)
      replace hg1 := keep hg1 hb3
      replace hg2 := keep hg2 hb3
      clear q0 q1 q2 q3 q4 q5 q6 q7 q8 q9 q10 q11 q12 q13 q14 qne qlt hk2
      clear hB2 hb3
      as_aux_lemma =>
        go_wp2_with (go_at_call 9; refine (q9 _).mono ?_; rintro e4 w4 ⟨rfl, hb4⟩; have hk2 := keep hg2 hb4; obtain ⟨q0, q1, q2, q3, q4, q5, q6, q7, q8, q9, q10, q11, q12, q13, q14⟩ := cells15 hk2; have qlt := lt_of hk2; have qne := Nat.ne_of_lt qlt)
        have hB4 := hB3.trans (hb4.mono hB3.size)
        replace hg1 := keep hg1 hb4
        replace hg2 := keep hg2 hb4
        clear q0 q1 q2 q3 q4 q5 q6 q7 q8 q9 q10 q11 q12 q13 q14 qne qlt hk2
        clear hB3 hb4
        as_aux_lemma =>
          go_wp2_with (go_at_call 10; refine (q10 _).mono ?_; rintro e5 w5 ⟨rfl, hb5⟩; )
          have hB5 := hB4.trans (hb5.mono hB4.size)
          replace hg1 := keep hg1 hb5
          replace hg2 := keep hg2 hb5
          clear hB4 hb5
          as_aux_lemma =>
            go_wp2_with (go_at_call 7; refine (implNew _).mono ?_; rintro e6 w6 ⟨⟨v6, ⟨C1, C3, C4, C5, C7, C9, C10, C11, C12, C13, C14, f1, f3, f4, f5, f7, f9, f10, f11, f12, f13, f14, rfl⟩, rfl⟩, hb6⟩; have ha1 := keep hg1 hb6; obtain ⟨p0, p1, p2, p3, p4, p5, p6, p7, p8, p9, p10, p11, p12, p13, p14⟩ := cells15 ha1; have plt := lt_of ha1; have pne := Nat.ne_of_lt plt; have ha2 := keep hg2 hb6; obtain ⟨q0, q1, q2, q3, q4, q5, q6, q7, q8, q9, q10, q11, q12, q13, q14⟩ := cells15 ha2; have qlt := lt_of ha2; have qne := Nat.ne_of_lt qlt)
            have hb6' := hB5.trans (hb6.mono hB5.size)
            have q8b := eqNew (v := .agg #[.int .i64 0, .slice C1 0 f1, .int .i64 4, .slice C3 0 f3, .slice C4 0 f4, .slice C5 0 f5, .int .i64 0, .slice C7 0 f7, .int .i64 4, .slice C9 0 f9, .slice C10 0 f10, .slice C11 0 f11, .slice C12 0 f12, .slice C13 0 f13, .slice C14 0 f14]) (u := .agg #[.int .i64 0, .slice A1 0 c1, .int .i64 4, .slice A3 0 c3, .slice A4 0 c4, .slice A5 0 c5, .int .i64 0, .slice A7 0 c7, .int .i64 4, .slice A9 0 c9, .slice A10 0 c10, .slice A11 0 c11, .slice A12 0 c12, .slice A13 0 c13, .slice A14 0 c14]) ⟨_, _, _, _, _, _, _, _, _, _, _, _, _, _, _, _, _, _, _, _, _, _, rfl⟩ ⟨_, _, _, _, _, _, _, _, _, _, _, _, _, _, _, _, _, _, _, _, _, _, rfl⟩
            replace hg1 := keepA (o' := .cells #[.int .i64 0, .slice C1 0 f1, .int .i64 4, .slice C3 0 f3, .slice C4 0 f4, .slice C5 0 f5, .int .i64 0, .slice C7 0 f7, .int .i64 4, .slice C9 0 f9, .slice C10 0 f10, .slice C11 0 f11, .slice C12 0 f12, .slice C13 0 f13, .slice C14 0 f14] 32 (0, 0)) ha1
            replace hg2 := keepA (o' := .cells #[.int .i64 0, .slice C1 0 f1, .int .i64 4, .slice C3 0 f3, .slice C4 0 f4, .slice C5 0 f5, .int .i64 0, .slice C7 0 f7, .int .i64 4, .slice C9 0 f9, .slice C10 0 f10, .slice C11 0 f11, .slice C12 0 f12, .slice C13 0 f13, .slice C14 0 f14] 32 (0, 0)) ha2
            have hg3 := blk_new w6 (.cells #[.int .i64 0, .slice C1 0 f1, .int .i64 4, .slice C3 0 f3, .slice C4 0 f4, .slice C5 0 f5, .int .i64 0, .slice C7 0 f7, .int .i64 4, .slice C9 0 f9, .slice C10 0 f10, .slice C11 0 f11, .slice C12 0 f12, .slice C13 0 f13, .slice C14 0 f14] 32 (0, 0))
            have hB6 : Below w.heap.size w (w6.alloc (.cells #[.int .i64 0, .slice C1 0 f1, .int .i64 4, .slice C3 0 f3, .slice C4 0 f4, .slice C5 0 f5, .int .i64 0, .slice C7 0 f7, .int .i64 4, .slice C9 0 f9, .slice C10 0 f10, .slice C11 0 f11, .slice C12 0 f12, .slice C13 0 f13, .slice C14 0 f14] 32 (0, 0))) := (hb6').alloc (hb6').size _
            generalize w6.alloc (.cells #[.int .i64 0, .slice C1 0 f1, .int .i64 4, .slice C3 0 f3, .slice C4 0 f4, .slice C5 0 f5, .int .i64 0, .slice C7 0 f7, .int .i64 4, .slice C9 0 f9, .slice C10 0 f10, .slice C11 0 f11, .slice C12 0 f12, .slice C13 0 f13, .slice C14 0 f14] 32 (0, 0)) = W6 at *
            generalize w6.heap.size = g3 at *
            clear p0 p1 p2 p3 p4 p5 p6 p7 p8 p9 p10 p11 p12 p13 p14 pne plt
            clear q0 q1 q2 q3 q4 q5 q6 q7 q8 q9 q10 q11 q12 q13 q14 qne qlt
            clear hb6 hb6' hB5 ha1 ha2
            as_aux_lemma =>
              go_wp2_with (go_at_call 8; refine (q8b _).mono ?_; rintro e7 w7 ⟨rfl, hb7⟩; have hk2 := keep hg2 hb7; obtain ⟨q0, q1, q2, q3, q4, q5, q6, q7, q8, q9, q10, q11, q12, q13, q14⟩ := cells15 hk2; have qlt := lt_of hk2; have qne := Nat.ne_of_lt qlt)
              have hB7 := hB6.trans (hb7.mono hB6.size)
              replace hg1 := keep hg1 hb7
              replace hg2 := keep hg2 hb7
              replace hg3 := keep hg3 hb7
              clear q0 q1 q2 q3 q4 q5 q6 q7 q8 q9 q10 q11 q12 q13 q14 qne qlt hk2
              clear hB6 hb7
              as_aux_lemma =>
                go_wp2_with (go_at_call 10; refine (q10 _).mono ?_; rintro e8 w8 ⟨rfl, hb8⟩; )
                have hB8 := hB7.trans (hb8.mono hB7.size)
                replace hg1 := keep hg1 hb8
                replace hg2 := keep hg2 hb8
                replace hg3 := keep hg3 hb8
                clear hB7 hb8
                try go_wp2
                go_ret
                exact ⟨rfl, hB8⟩
end Go.Proofs.Ytedabcmcfininaa.New
