/- Plain mathematics: what one list of spans has that another has not, and what both have. -/
import Derived.Test.YthkjkmgbdahggaaSetMath
namespace Go.Proofs.Ythkjkmgbdahggaa.SetMath
def cut (x : Int × Int) : List (Int × Int) → List (Int × Int) × Int
  | [] => ([], x.1)
  | y :: B => if y.2 < x.1 ∨ y.1 > x.2 then cut x B else ((if x.1 < y.1 then [(x.1, y.1 - 1)] else []) ++ (cut (y.2 + 1, x.2) B).1, (cut (y.2 + 1, x.2) B).2)
def cutAll (x : Int × Int) (B : List (Int × Int)) : List (Int × Int) := (cut x B).1 ++ (if (cut x B).2 ≤ x.2 then [((cut x B).2, x.2)] else [])
def less (A B : List (Int × Int)) : List (Int × Int) := A.flatMap fun x => cutAll x B
theorem cut_mem : ∀ (B : List (Int × Int)) (x : Int × Int), Canon B → ∀ p, (memS (cutAll x B) p ↔ (x.1 ≤ p ∧ p ≤ x.2) ∧ ¬ memS B p)
  | [], x, _, p => by
    unfold cutAll cut
    split <;> simp [memS_nil, memS_cons]
    omega
  | y :: B, x, h, p => by
    obtain ⟨h1, h2, h3⟩ := Canon.cons.1 h
    have hB : ∀ {q}, memS B q → y.2 + 1 < q := by rintro q ⟨u, hu, g1, g2⟩; have := h1 u hu; omega
    by_cases hc : y.2 < x.1 ∨ y.1 > x.2
    · have e : cutAll x (y :: B) = cutAll x B := by unfold cutAll; rw [show cut x (y :: B) = cut x B from by rw [cut, if_pos hc]]
      rw [e, cut_mem B x h3 p, memS_cons]
      constructor
      · rintro ⟨a, b⟩; exact ⟨a, by rintro (g | g); omega; exact b g⟩
      · rintro ⟨a, b⟩; exact ⟨a, fun g => b (.inr g)⟩
    · have e : cutAll x (y :: B) = (if x.1 < y.1 then [(x.1, y.1 - 1)] else []) ++ cutAll (y.2 + 1, x.2) B := by
        unfold cutAll
        rw [show cut x (y :: B) = ((if x.1 < y.1 then [(x.1, y.1 - 1)] else []) ++ (cut (y.2 + 1, x.2) B).1, (cut (y.2 + 1, x.2) B).2) from by rw [cut, if_neg hc]]
        simp
      rw [e, memS_append, cut_mem B (y.2 + 1, x.2) h3 p, memS_cons]
      have hf : memS (if x.1 < y.1 then [(x.1, y.1 - 1)] else []) p ↔ x.1 ≤ p ∧ p ≤ y.1 - 1 := by
        split <;> simp [memS_nil, memS_cons]
        omega
      rw [hf]
      constructor
      · rintro (g | ⟨g1, g2⟩)
        · refine ⟨by omega, ?_⟩
          rintro (g3 | g3)
          · omega
          · have := hB g3; omega
        · refine ⟨by simp only at g1; omega, ?_⟩
          rintro (g3 | g3)
          · simp only at g1; omega
          · exact g2 g3
      · rintro ⟨g1, g2⟩
        have g3 : ¬ (y.1 ≤ p ∧ p ≤ y.2) := fun g => g2 (.inl g)
        by_cases g4 : p < y.1
        · exact .inl (by omega)
        · exact .inr ⟨by simp only; omega, fun g => g2 (.inr g)⟩
theorem cut_good : ∀ (B : List (Int × Int)) (x : Int × Int), Good (cutAll x B)
  | [], x => by unfold cutAll cut; split <;> simp [Good]; assumption
  | y :: B, x => by
    by_cases hc : y.2 < x.1 ∨ y.1 > x.2
    · have e : cutAll x (y :: B) = cutAll x B := by unfold cutAll; rw [show cut x (y :: B) = cut x B from by rw [cut, if_pos hc]]
      rw [e]; exact cut_good B x
    · have e : cutAll x (y :: B) = (if x.1 < y.1 then [(x.1, y.1 - 1)] else []) ++ cutAll (y.2 + 1, x.2) B := by
        unfold cutAll
        rw [show cut x (y :: B) = ((if x.1 < y.1 then [(x.1, y.1 - 1)] else []) ++ (cut (y.2 + 1, x.2) B).1, (cut (y.2 + 1, x.2) B).2) from by rw [cut, if_neg hc]]
        simp
      rw [e]
      intro s hs
      rcases List.mem_append.1 hs with hs | hs
      · split at hs
        · rw [List.mem_singleton] at hs; rw [hs]; simp only; omega
        · cases hs
      · exact cut_good B _ s hs
theorem cut_len : ∀ (B : List (Int × Int)) (x : Int × Int), (cut x B).1.length ≤ B.length
  | [], x => by simp [cut]
  | y :: B, x => by
    unfold cut
    split
    · have := cut_len B x; simp; omega
    · have := cut_len B (y.2 + 1, x.2)
      split <;> simp <;> omega
theorem memS_flatMap {α : Type} (f : α → List (Int × Int)) (l : List α) (p : Int) : memS (l.flatMap f) p ↔ ∃ x ∈ l, memS (f x) p := by
  induction l with
  | nil => simp [memS_nil]
  | cons a l ih => simp [memS_append, ih]
theorem less_mem {A B : List (Int × Int)} (h : Canon B) (p : Int) : memS (less A B) p ↔ memS A p ∧ ¬ memS B p := by
  unfold less
  rw [memS_flatMap]
  constructor
  · rintro ⟨x, hx, hp⟩
    obtain ⟨a, b⟩ := (cut_mem B x h p).1 hp
    exact ⟨⟨x, hx, a⟩, b⟩
  · rintro ⟨⟨x, hx, a⟩, b⟩
    exact ⟨x, hx, (cut_mem B x h p).2 ⟨a, b⟩⟩
theorem less_good (A B : List (Int × Int)) : Good (less A B) := by
  intro s hs
  obtain ⟨x, _, hs⟩ := List.mem_flatMap.1 hs
  exact cut_good B x s hs
theorem good_nil {l : List (Int × Int)} (hg : Good l) (h : ∀ p, ¬ memS l p) : l = [] := by
  cases l with
  | nil => rfl
  | cons s l => exact absurd (memS_cons.2 (.inl ⟨Int.le_refl _, hg s (by simp)⟩)) (h s.1)
def gaps : Int → List (Int × Int) → List (Int × Int)
  | at_, [] => if at_ ≤ 4294967295 then [(at_, 4294967295)] else []
  | at_, s :: l => (if s.1 > at_ then [(at_, s.1 - 1)] else []) ++ gaps (s.2 + 1) l
theorem gaps_spec : ∀ (l : List (Int × Int)) (a : Int), Canon l → (∀ s ∈ l, a ≤ s.1 ∧ s.2 ≤ 4294967295) → (Canon (gaps a l) ∧ ∀ s ∈ gaps a l, a ≤ s.1 ∧ s.2 ≤ 4294967295) ∧ ∀ p, memS (gaps a l) p ↔ (a ≤ p ∧ p ≤ 4294967295) ∧ ¬ memS l p
  | [], a, _, _ => by
    unfold gaps
    split
    · rename_i h
      refine ⟨⟨by simp [Canon, Good]; exact h, by simp⟩, fun p => by simp [memS_nil, memS_cons]⟩
    · refine ⟨⟨by simp [Canon, Good], by simp⟩, fun p => by simp [memS_nil]; omega⟩
  | s :: l, a, h, hw => by
    obtain ⟨h1, h2, h3⟩ := Canon.cons.1 h
    obtain ⟨w1, w2⟩ := hw s (by simp)
    obtain ⟨⟨i1, i2⟩, i3⟩ := gaps_spec l (s.2 + 1) h3 (fun t ht => ⟨by have := h1 t ht; omega, (hw t (by simp [ht])).2⟩)
    have hB : ∀ {q}, memS l q → s.2 + 1 < q := by rintro q ⟨u, hu, g1, g2⟩; have := h1 u hu; omega
    unfold gaps
    refine ⟨?_, fun p => ?_⟩
    · split
      · rename_i hc
        refine ⟨Canon.cons.2 ⟨fun t ht => by have := i2 t ht; simp only; omega, by simp only; omega, i1⟩, ?_⟩
        intro t ht
        rcases List.mem_cons.1 ht with rfl | ht
        · simp only; omega
        · have := i2 t ht; omega
      · exact ⟨i1, fun t ht => by have := i2 t ht; omega⟩
    · have hf : memS (if s.1 > a then [(a, s.1 - 1)] else []) p ↔ a ≤ p ∧ p ≤ s.1 - 1 := by
        split <;> simp [memS_nil, memS_cons]
        omega
      rw [memS_append, hf, i3 p, memS_cons]
      constructor
      · rintro (g | ⟨g1, g2⟩)
        · refine ⟨by omega, ?_⟩
          rintro (g3 | g3)
          · omega
          · have := hB g3; omega
        · refine ⟨by omega, ?_⟩
          rintro (g3 | g3)
          · omega
          · exact g2 g3
      · rintro ⟨g1, g2⟩
        by_cases g4 : p < s.1
        · exact .inl (by omega)
        · refine .inr ⟨?_, fun g => g2 (.inr g)⟩
          have : ¬ (s.1 ≤ p ∧ p ≤ s.2) := fun g => g2 (.inl g)
          omega
def both (A N : List (Int × Int)) : List (Int × Int) := A.flatMap fun x => N.flatMap fun y => if max x.1 y.1 ≤ min x.2 y.2 then [(max x.1 y.1, min x.2 y.2)] else []
theorem both_mem (A N : List (Int × Int)) (p : Int) : memS (both A N) p ↔ memS A p ∧ memS N p := by
  unfold both
  rw [memS_flatMap]
  have hf : ∀ x y : Int × Int, memS (if max x.1 y.1 ≤ min x.2 y.2 then [(max x.1 y.1, min x.2 y.2)] else []) p ↔ (x.1 ≤ p ∧ p ≤ x.2) ∧ y.1 ≤ p ∧ p ≤ y.2 := by
    intro x y; split <;> simp [memS_nil, memS_cons] <;> omega
  constructor
  · rintro ⟨x, hx, hp⟩
    rw [memS_flatMap] at hp
    obtain ⟨y, hy, hp⟩ := hp
    obtain ⟨a, b⟩ := (hf x y).1 hp
    exact ⟨⟨x, hx, a⟩, ⟨y, hy, b⟩⟩
  · rintro ⟨⟨x, hx, a⟩, ⟨y, hy, b⟩⟩
    exact ⟨x, hx, (memS_flatMap _ _ _).2 ⟨y, hy, (hf x y).2 ⟨a, b⟩⟩⟩
theorem both_at {A N : List (Int × Int)} {s : Int × Int} (h : s ∈ both A N) : ∃ x ∈ A, ∃ y ∈ N, s = (max x.1 y.1, min x.2 y.2) ∧ s.1 ≤ s.2 := by
  obtain ⟨x, hx, h⟩ := List.mem_flatMap.1 h
  obtain ⟨y, hy, h⟩ := List.mem_flatMap.1 h
  split at h
  · rename_i hc; rw [List.mem_singleton] at h; exact ⟨x, hx, y, hy, h, by rw [h]; exact hc⟩
  · cases h
theorem both_good (A N : List (Int × Int)) : Good (both A N) := fun s hs => by obtain ⟨_, _, _, _, _, h⟩ := both_at hs; exact h
theorem both_canon {A N : List (Int × Int)} (hA : Canon A) (hN : Canon N) : Canon (both A N) := by
  refine ⟨?_, both_good A N⟩
  have inner : ∀ (x : Int × Int) (M : List (Int × Int)), Canon M → (M.flatMap fun y => if max x.1 y.1 ≤ min x.2 y.2 then [(max x.1 y.1, min x.2 y.2)] else []).Pairwise (fun a b => a.2 + 1 < b.1) := by
    intro x M hM
    induction M with
    | nil => simp
    | cons y M ih =>
      obtain ⟨m1, m2, m3⟩ := Canon.cons.1 hM
      rw [List.flatMap_cons, List.pairwise_append]
      refine ⟨by split <;> simp, ih m3, ?_⟩
      intro a ha b hb
      obtain ⟨z, hz, hb⟩ := List.mem_flatMap.1 hb
      have := m1 z hz
      split at ha
      · split at hb
        · rw [List.mem_singleton] at ha hb; rw [ha, hb]; simp only; omega
        · cases hb
      · cases ha
  induction A with
  | nil => simp [both]
  | cons x A ih =>
    obtain ⟨a1, a2, a3⟩ := Canon.cons.1 hA
    have e : both (x :: A) N = (N.flatMap fun y => if max x.1 y.1 ≤ min x.2 y.2 then [(max x.1 y.1, min x.2 y.2)] else []) ++ both A N := by simp [both]
    rw [e, List.pairwise_append]
    refine ⟨inner x N hN, ih a3, ?_⟩
    intro a ha b hb
    obtain ⟨z, hz, y, hy, rfl, hb⟩ := both_at hb
    obtain ⟨u, hu, ha⟩ := List.mem_flatMap.1 ha
    have := a1 z hz
    split at ha
    · rw [List.mem_singleton] at ha; rw [ha]; simp only; omega
    · cases ha
theorem within_sub {l r : List (Int × Int)} (hg : Good l) (hm : ∀ x, memS l x → memS r x) (h : Within r) : Within l := by
  intro s hs
  have g := hg s hs
  obtain ⟨t, ht, h1, h2⟩ := hm s.1 ⟨s, hs, Int.le_refl _, g⟩
  obtain ⟨u, hu, h3, h4⟩ := hm s.2 ⟨s, hs, g, Int.le_refl _⟩
  have := h t ht
  have := h u hu
  omega
theorem gaps_len : ∀ (l : List (Int × Int)) (a : Int), (gaps a l).length ≤ l.length + 1
  | [], a => by unfold gaps; split <;> simp
  | s :: l, a => by
    have := gaps_len l (s.2 + 1)
    unfold gaps; split <;> simp <;> omega
theorem row_len (x : Int × Int) (N : List (Int × Int)) : (N.flatMap fun y => if max x.1 y.1 ≤ min x.2 y.2 then [(max x.1 y.1, min x.2 y.2)] else []).length ≤ N.length := by
  induction N with
  | nil => simp
  | cons y N ih => rw [List.flatMap_cons, List.length_append, List.length_cons]; split <;> simp only [List.length_cons, List.length_nil] <;> omega
theorem both_len (A N : List (Int × Int)) : (both A N).length ≤ A.length * N.length := by
  induction A with
  | nil => simp [both]
  | cons x A ih =>
    have e : both (x :: A) N = (N.flatMap fun y => if max x.1 y.1 ≤ min x.2 y.2 then [(max x.1 y.1, min x.2 y.2)] else []) ++ both A N := by simp [both]
    have := row_len x N
    rw [e, List.length_append, List.length_cons, Nat.add_mul]; omega
theorem cutAll_len (x : Int × Int) (B : List (Int × Int)) : (cutAll x B).length ≤ B.length + 1 := by
  have := cut_len B x
  unfold cutAll; rw [List.length_append]; split <;> simp <;> omega
theorem less_len (A B : List (Int × Int)) : (less A B).length ≤ A.length * (B.length + 1) := by
  induction A with
  | nil => simp [less]
  | cons x A ih =>
    have e : less (x :: A) B = cutAll x B ++ less A B := by simp [less]
    have := cutAll_len x B
    rw [e, List.length_append, List.length_cons, Nat.add_mul]; omega
theorem less_both {A B : List (Int × Int)} (hA : Canon A) (hB : Canon B) (wA : Within A) (wB : Within B) : canon (less A B) = both A (gaps 0 B) := by
  obtain ⟨⟨g1, g2⟩, g3⟩ := gaps_spec B 0 hB (fun s hs => wB s hs)
  refine canon_eq (less_good A B) (both_canon hA g1) fun p => ?_
  rw [both_mem, less_mem hB, g3 p]
  constructor
  · rintro ⟨a, _, b⟩; exact ⟨a, b⟩
  · rintro ⟨a, b⟩
    refine ⟨a, ?_, b⟩
    obtain ⟨s, hs, h1, h2⟩ := a
    have := wA s hs
    omega
end Go.Proofs.Ythkjkmgbdahggaa.SetMath
