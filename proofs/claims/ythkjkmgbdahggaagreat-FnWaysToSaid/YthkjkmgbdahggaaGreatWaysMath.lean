/- Routes in plain words: to which hop an address leads, at which addresses that changes, the addresses that lead to a hop. No conditions beyond those that each theorem tells. -/
import Derived.Test.YthkjkmgbdahggaaGreatSetMath
import Derived.Test.YthkjkmgbdahggaaGreatSrtN
namespace Go.Proofs.YthkjkmgbdahggaaGreat.SetMath
set_option linter.unusedVariables false
set_option linter.unusedSimpArgs false
abbrev Rt := (Int × Nat) × Int
def hasB (b : Int × Nat) (a : Int) : Bool := decide (b.1 ≤ a ∧ a ≤ b.1 + sz b.2 - 1)
def leadF (s : Int × Int) (l : List Rt) (a : Int) : Int × Int := l.foldl (fun s w => if hasB w.1 a = true ∧ s.2 < (w.1.2 : Int) then (w.2, (w.1.2 : Int)) else s) s
def lead (l : List Rt) (a : Int) : Int := (leadF (-1, -1) l a).1
theorem leadF_cons (s : Int × Int) (w : Rt) (l : List Rt) (a : Int) : leadF s (w :: l) a = leadF (if hasB w.1 a = true ∧ s.2 < (w.1.2 : Int) then (w.2, (w.1.2 : Int)) else s) l a := rfl
theorem lead_same {l : List Rt} {a e : Int} (h : ∀ w ∈ l, hasB w.1 a = hasB w.1 e) : ∀ s, leadF s l a = leadF s l e := by
  induction l with
  | nil => intro s; rfl
  | cons w l ih =>
    intro s
    rw [leadF_cons, leadF_cons, h w (by simp)]
    exact ih (fun x hx => h x (by simp [hx])) _
theorem lead_range {l : List Rt} {a m : Int} : ∀ s : Int × Int, -1 ≤ s.1 → s.1 ≤ m → (∀ w ∈ l, -1 ≤ w.2 ∧ w.2 ≤ m) → -1 ≤ (leadF s l a).1 ∧ (leadF s l a).1 ≤ m := by
  induction l with
  | nil => intro s h1 h2 _; exact ⟨h1, h2⟩
  | cons w l ih =>
    intro s h1 h2 h
    obtain ⟨w1, w2⟩ := h w (by simp)
    rw [leadF_cons]
    split
    · exact ih _ w1 w2 (fun x hx => h x (by simp [hx]))
    · exact ih _ h1 h2 (fun x hx => h x (by simp [hx]))
def SAsc (l : List Int) : Prop := l.Pairwise (· < ·)
theorem sasc_unique : ∀ {l r : List Int}, SAsc l → SAsc r → (∀ x, x ∈ l ↔ x ∈ r) → l = r
  | [], [], _, _, _ => rfl
  | [], b :: r, _, _, h => absurd ((h b).2 (by simp)) (by simp)
  | a :: l, [], _, _, h => absurd ((h a).1 (by simp)) (by simp)
  | a :: l, b :: r, hl, hr, h => by
    obtain ⟨l1, l2⟩ := List.pairwise_cons.1 hl
    obtain ⟨r1, r2⟩ := List.pairwise_cons.1 hr
    have hab : a = b := by
      rcases List.mem_cons.1 ((h a).1 (by simp)) with e | e
      · exact e
      · rcases List.mem_cons.1 ((h b).2 (by simp)) with e2 | e2
        · exact e2.symm
        · have := r1 a e; have := l1 b e2; omega
    subst hab
    congr 1
    refine sasc_unique l2 r2 fun x => ?_
    constructor
    · intro hx
      rcases List.mem_cons.1 ((h x).1 (by simp [hx])) with e | e
      · subst e; exact absurd (l1 x hx) (by omega)
      · exact e
    · intro hx
      rcases List.mem_cons.1 ((h x).2 (by simp [hx])) with e | e
      · subst e; exact absurd (r1 x hx) (by omega)
      · exact e
def insN (n : Int) : List Int → List Int
  | [] => [n]
  | a :: l => if a < n then a :: insN n l else if a = n then a :: l else n :: a :: l
theorem insN_mem (n x : Int) : ∀ l : List Int, x ∈ insN n l ↔ x = n ∨ x ∈ l
  | [] => by simp [insN]
  | a :: l => by
    unfold insN
    split
    · rw [List.mem_cons, List.mem_cons, insN_mem n x l]
      constructor
      · rintro (h | h | h) <;> simp [h]
      · rintro (h | h | h) <;> simp [h]
    · split
      · rename_i e; subst e; simp
      · simp
theorem insN_asc (n : Int) : ∀ {l : List Int}, SAsc l → SAsc (insN n l)
  | [], _ => by simp [insN, SAsc]
  | a :: l, h => by
    obtain ⟨h1, h2⟩ := List.pairwise_cons.1 h
    unfold insN
    split
    · rename_i han
      refine List.pairwise_cons.2 ⟨fun x hx => ?_, insN_asc n h2⟩
      rcases (insN_mem n x l).1 hx with e | e
      · subst e; exact han
      · exact h1 x e
    · rename_i h3
      split
      · exact h
      · rename_i h4
        refine List.pairwise_cons.2 ⟨fun x hx => ?_, h⟩
        rcases List.mem_cons.1 hx with e | e
        · subst e; omega
        · have := h1 x e; omega
theorem insN_len (n : Int) : ∀ l : List Int, (insN n l).length ≤ l.length + 1
  | [] => by simp [insN]
  | a :: l => by
    unfold insN
    split
    · have := insN_len n l; simp; omega
    · split <;> simp
def edgeB (b : Int × Nat) : List Int := b.1 :: if b.1 + sz b.2 - 1 < 4294967295 then [b.1 + sz b.2] else []
def edgesF (l : List Rt) : List Int → List Int := fun s => l.foldl (fun s w => (edgeB w.1).foldl (fun s n => insN n s) s) s
def edges (l : List Rt) : List Int := edgesF l [0]
theorem foldN_mem (x : Int) : ∀ (l s : List Int), x ∈ l.foldl (fun s n => insN n s) s ↔ x ∈ l ∨ x ∈ s
  | [], s => by simp
  | n :: l, s => by
    rw [List.foldl_cons, foldN_mem x l, insN_mem]
    simp only [List.mem_cons]
    constructor
    · rintro (h | h | h) <;> simp [h]
    · rintro ((h | h) | h) <;> simp [h]
theorem foldN_asc : ∀ (l s : List Int), SAsc s → SAsc (l.foldl (fun s n => insN n s) s)
  | [], _, h => h
  | n :: l, s, h => foldN_asc l _ (insN_asc n h)
theorem edgesF_mem (x : Int) : ∀ (l : List Rt) (s : List Int), x ∈ edgesF l s ↔ (∃ w ∈ l, x ∈ edgeB w.1) ∨ x ∈ s
  | [], s => by simp [edgesF]
  | w :: l, s => by
    show x ∈ edgesF l _ ↔ _
    rw [edgesF_mem x l, foldN_mem]
    constructor
    · rintro (⟨v, hv, h⟩ | h | h)
      · exact .inl ⟨v, by simp [hv], h⟩
      · exact .inl ⟨w, by simp, h⟩
      · exact .inr h
    · rintro (⟨v, hv, h⟩ | h)
      · rcases List.mem_cons.1 hv with e | e
        · subst e; exact .inr (.inl h)
        · exact .inl ⟨v, e, h⟩
      · exact .inr (.inr h)
theorem edgesF_asc : ∀ (l : List Rt) (s : List Int), SAsc s → SAsc (edgesF l s)
  | [], _, h => h
  | w :: l, s, h => edgesF_asc l _ (foldN_asc _ _ h)
theorem edges_asc (l : List Rt) : SAsc (edges l) := edgesF_asc l [0] (by simp [SAsc])
theorem edges_mem (l : List Rt) (x : Int) : x ∈ edges l ↔ (∃ w ∈ l, x ∈ edgeB w.1) ∨ x = 0 := by
  unfold edges; rw [edgesF_mem]; simp
theorem edgeB_range {b : Int × Nat} (h : okB b) {x : Int} (hx : x ∈ edgeB b) : 0 ≤ x ∧ x ≤ 4294967295 := by
  obtain ⟨h0, h1, _, _⟩ := h
  have := sz_pos b.2
  unfold edgeB at hx
  rcases List.mem_cons.1 hx with e | e
  · subst e; exact ⟨h0, h1⟩
  · split at e
    · rw [List.mem_singleton] at e; omega
    · cases e
theorem edges_range {l : List Rt} (h : ∀ w ∈ l, okB w.1) {x : Int} (hx : x ∈ edges l) : 0 ≤ x ∧ x ≤ 4294967295 := by
  rcases (edges_mem l x).1 hx with ⟨w, hw, e⟩ | e
  · exact edgeB_range (h w hw) e
  · omega
def pieces : List Int → List (Int × Int)
  | [] => []
  | [a] => [(a, 4294967295)]
  | a :: b :: l => (a, b - 1) :: pieces (b :: l)
theorem pieces_first : ∀ (l : List Int) (x : Int × Int), x ∈ pieces l → x.1 ∈ l
  | [], _, h => by cases h
  | [a], x, h => by simp [pieces] at h; simp [h]
  | a :: b :: l, x, h => by
    rcases List.mem_cons.1 h with e | e
    · simp [e]
    · exact List.mem_cons_of_mem _ (pieces_first (b :: l) x e)
theorem pieces_len : ∀ l : List Int, (pieces l).length = l.length
  | [] => rfl
  | [_] => rfl
  | a :: b :: l => by simp [pieces, pieces_len (b :: l)]
theorem pieces_spec : ∀ {l : List Int}, SAsc l → (∀ x ∈ l, 0 ≤ x ∧ x ≤ 4294967295) →
    Good (pieces l) ∧ Apart (pieces l) ∧ Within (pieces l) ∧ (∀ p ∈ pieces l, ∀ x ∈ l, p.1 < x → p.2 < x) ∧ (∀ a s, l.head? = some s → s ≤ a → a ≤ 4294967295 → memS (pieces l) a) ∧ (∀ s, l.head? = some s → total (pieces l) = 4294967295 - s + 1)
  | [], _, _ => ⟨by simp [pieces, Good], by simp [pieces, Apart], by simp [pieces, Within], by simp [pieces], by simp, by simp⟩
  | [a], _, h => by
    obtain ⟨h0, h1⟩ := h a (by simp)
    refine ⟨by simp [pieces, Good]; omega, by simp [pieces, Apart], by simp [pieces, Within]; omega, ?_, ?_, ?_⟩
    · intro p hp x hx; simp [pieces] at hp hx; subst hp; subst hx; simp
    · intro x s hs h2 h3; simp at hs; subst hs; exact ⟨(a, 4294967295), by simp [pieces], h2, h3⟩
    · intro s hs; simp at hs; subst hs; simp [pieces, total]
  | a :: b :: l, h, hr => by
    obtain ⟨h1, h2⟩ := List.pairwise_cons.1 h
    obtain ⟨i1, i2, i3, i4, i5, i6⟩ := pieces_spec h2 (fun x hx => hr x (List.mem_cons_of_mem _ hx))
    have hab := h1 b (by simp)
    obtain ⟨ha0, ha1⟩ := hr a (by simp)
    obtain ⟨hb0, hb1⟩ := hr b (by simp)
    have hlow : ∀ p ∈ pieces (b :: l), b ≤ p.1 := fun p hp => by
      rcases List.mem_cons.1 (pieces_first _ p hp) with e | e
      · omega
      · have := (List.pairwise_cons.1 h2).1 _ e; omega
    refine ⟨Good.cons.2 ⟨by simp; omega, i1⟩, List.pairwise_cons.2 ⟨fun p hp => by have := hlow p hp; simp; omega, i2⟩, ?_, ?_, ?_, ?_⟩
    · intro p hp
      rcases List.mem_cons.1 hp with e | e
      · subst e; simp; omega
      · exact i3 p e
    · intro p hp x hx hlt
      rcases List.mem_cons.1 hp with e | e
      · subst e
        simp only at hlt ⊢
        rcases List.mem_cons.1 hx with e2 | e2
        · omega
        · rcases List.mem_cons.1 e2 with e3 | e3
          · omega
          · have := (List.pairwise_cons.1 h2).1 x e3; omega
      · rcases List.mem_cons.1 hx with e2 | e2
        · have := hlow p e; omega
        · exact i4 p e x e2 hlt
    · intro x s hs h3 h4
      simp at hs
      subst hs
      by_cases hx : x < b
      · exact ⟨(a, b - 1), by simp [pieces], h3, by simp; omega⟩
      · obtain ⟨p, hp, q⟩ := i5 x b rfl (by omega) h4
        exact ⟨p, List.mem_cons_of_mem _ hp, q⟩
    · intro s hs
      simp at hs
      subst hs
      show total ((a, b - 1) :: pieces (b :: l)) = _
      rw [total_cons, i6 b rfl]; simp; omega
theorem edges_head {l : List Rt} (h : ∀ w ∈ l, okB w.1) : (edges l).head? = some 0 := by
  have hm := (edges_mem l 0).2 (.inr rfl)
  have ha := edges_asc l
  have hr : ∀ x ∈ edges l, 0 ≤ x ∧ x ≤ 4294967295 := fun x hx => edges_range h hx
  generalize edges l = e at hm ha hr
  cases e with
  | nil => cases hm
  | cons x e =>
    rcases List.mem_cons.1 hm with q | q
    · simp [← q]
    · have := (List.pairwise_cons.1 ha).1 0 q
      have := (hr x (by simp)).1
      omega
theorem lead_piece {l : List Rt} (h : ∀ w ∈ l, okB w.1) {p : Int × Int} (hp : p ∈ pieces (edges l)) {a : Int} (h1 : p.1 ≤ a) (h2 : a ≤ p.2) : lead l a = lead l p.1 := by
  obtain ⟨_, _, hw, hx, _, _⟩ := pieces_spec (edges_asc l) (fun x hx => edges_range h hx)
  have hq := hw p hp
  unfold lead
  rw [lead_same]
  intro w hwl
  have hb := h w hwl
  have hs := sz_pos w.1.2
  have e1 : w.1.1 ∈ edges l := (edges_mem l _).2 (.inl ⟨w, hwl, by simp [edgeB]⟩)
  have f1 := hx p hp _ e1
  have e2 : w.1.1 + sz w.1.2 - 1 < 4294967295 → w.1.1 + sz w.1.2 ∈ edges l := fun h => (edges_mem l _).2 (.inl ⟨w, hwl, by simp [edgeB, h]⟩)
  have f2 := fun h => hx p hp _ (e2 h)
  have hend := okB_end hb
  unfold hasB
  rw [Bool.eq_iff_iff, decide_eq_true_eq, decide_eq_true_eq]
  by_cases c : w.1.1 + sz w.1.2 - 1 < 4294967295
  · have := f2 c
    omega
  · omega
def toHop (l : List Rt) (hop : Int) : List (Int × Int) := (pieces (edges l)).filter fun p => lead l p.1 == hop
theorem toHop_good {l : List Rt} (h : ∀ w ∈ l, okB w.1) (hop : Int) : Good (toHop l hop) ∧ Apart (toHop l hop) ∧ Within (toHop l hop) := by
  obtain ⟨h1, h2, h3, _⟩ := pieces_spec (edges_asc l) (fun x hx => edges_range h hx)
  exact ⟨fun s hs => h1 s ((List.mem_filter.1 hs).1), h2.filter _, fun s hs => h3 s ((List.mem_filter.1 hs).1)⟩
theorem toHop_mem {l : List Rt} (h : ∀ w ∈ l, okB w.1) (hop a : Int) : memS (toHop l hop) a ↔ (0 ≤ a ∧ a ≤ 4294967295) ∧ lead l a = hop := by
  obtain ⟨_, _, h3, _, h5, _⟩ := pieces_spec (edges_asc l) (fun x hx => edges_range h hx)
  constructor
  · rintro ⟨p, hp, q1, q2⟩
    obtain ⟨hp1, hp2⟩ := List.mem_filter.1 hp
    have := h3 p hp1
    refine ⟨by omega, ?_⟩
    rw [lead_piece h hp1 q1 q2]
    simpa using hp2
  · rintro ⟨⟨a0, a1⟩, hl⟩
    obtain ⟨p, hp, q1, q2⟩ := h5 a 0 (edges_head h) a0 a1
    refine ⟨p, List.mem_filter.2 ⟨hp, ?_⟩, q1, q2⟩
    rw [lead_piece h hp q1 q2] at hl
    simpa using hl
theorem total_filter (f : Int × Int → Int) : ∀ (l : List (Int × Int)), (∀ p ∈ l, -1 ≤ f p ∧ f p ≤ 2) →
    total (l.filter fun p => f p == -1) + total (l.filter fun p => f p == 0) + total (l.filter fun p => f p == 1) + total (l.filter fun p => f p == 2) = total l
  | [], _ => by simp [total]
  | p :: l, h => by
    have ih := total_filter f l (fun q hq => h q (by simp [hq]))
    obtain ⟨h1, h2⟩ := h p (by simp)
    have hc : f p = -1 ∨ f p = 0 ∨ f p = 1 ∨ f p = 2 := by omega
    rcases hc with e | e | e | e <;> simp [List.filter_cons, e, total_cons] <;> omega
theorem toHop_total {l : List Rt} (h : ∀ w ∈ l, okB w.1) (hh : ∀ w ∈ l, -1 ≤ w.2 ∧ w.2 ≤ 2) : total (toHop l (-1)) + total (toHop l 0) + total (toHop l 1) + total (toHop l 2) = 4294967296 := by
  obtain ⟨_, _, _, _, _, h6⟩ := pieces_spec (edges_asc l) (fun x hx => edges_range h hx)
  have := total_filter (fun p => lead l p.1) (pieces (edges l)) (fun p _ => lead_range (-1, -1) (by simp) (by simp) hh)
  rw [h6 0 (edges_head h)] at this
  unfold toHop
  omega
theorem compact_spec {zs : List Int} (h : zs.Pairwise (· ≤ ·)) : SAsc (Lib.compact zs) ∧ ∀ x, x ∈ Lib.compact zs ↔ x ∈ zs := by
  have hle : ∀ i j, i ≤ j → j < zs.length → zs[i]! ≤ zs[j]! := by
    intro i j hij hj
    rcases Nat.eq_or_lt_of_le hij with e | e
    · subst e; exact Int.le_refl _
    · rw [getElem!_pos zs i (by omega), getElem!_pos zs j hj]
      exact List.pairwise_iff_getElem.1 h i j (by omega) hj e
  have hat : ∀ j : Nat, zs.toArray[j]! = zs[j]! := fun j => by simp
  constructor
  · unfold SAsc Lib.compact Lib.compactUpTo
    rw [List.pairwise_map]
    refine List.Pairwise.imp_of_mem ?_ (List.pairwise_lt_range.filter (Lib.keeps zs.toArray))
    intro i j hi hj hij
    obtain ⟨j1, j2⟩ := List.mem_filter.1 hj
    have hjl := List.mem_range.1 j1
    unfold Lib.keeps at j2
    simp only [hat, decide_eq_true_eq] at j2 ⊢
    have h1 := hle i (j - 1) (by omega) (by omega)
    have h2 := hle (j - 1) j (by omega) hjl
    rcases j2 with e | e
    · omega
    · omega
  · intro x
    unfold Lib.compact Lib.compactUpTo
    simp only [List.mem_map, List.mem_filter, List.mem_range, hat]
    constructor
    · rintro ⟨j, ⟨hj, _⟩, rfl⟩
      rw [getElem!_pos zs j hj]; exact List.getElem_mem hj
    · intro hx
      obtain ⟨j, hj, e⟩ := List.getElem_of_mem hx
      have hex : ∀ n, (∃ j, j < n ∧ j < zs.length ∧ zs[j]! = x) → ∃ j, (j < zs.length ∧ Lib.keeps zs.toArray j = true) ∧ zs[j]! = x := by
        intro n
        induction n with
        | zero => rintro ⟨j, h, _⟩; omega
        | succ n ih =>
          rintro ⟨j, h1, h2, h3⟩
          by_cases hk : Lib.keeps zs.toArray j = true
          · exact ⟨j, ⟨h2, hk⟩, h3⟩
          · unfold Lib.keeps at hk
            simp only [hat, decide_eq_true_eq] at hk
            have hk2 : ¬ j = 0 ∧ zs[j]! = zs[j - 1]! := ⟨fun e => hk (.inl e), Classical.byContradiction fun e => hk (.inr e)⟩
            exact ih ⟨j - 1, by omega, by omega, by rw [← hk2.2]; exact h3⟩
      exact hex (j + 1) ⟨j, by omega, hj, by rw [getElem!_pos zs j hj]; exact e⟩
theorem nrm_spec (xs : List Int) : SAsc (SrtN.nrm xs) ∧ ∀ x, x ∈ SrtN.nrm xs ↔ x ∈ xs := by
  have hs : (xs.mergeSort fun x y => decide (x ≤ y)).Pairwise (· ≤ ·) := by
    have := List.pairwise_mergeSort (le := fun x y : Int => decide (x ≤ y)) (fun a b c h1 h2 => by simp at h1 h2 ⊢; omega) (fun a b => by simp; omega) xs
    exact this.imp fun h => by simpa using h
  obtain ⟨h1, h2⟩ := compact_spec hs
  refine ⟨h1, fun x => ?_⟩
  unfold SrtN.nrm
  rw [h2]
  exact (List.mergeSort_perm xs _).mem_iff
theorem nrm_edges {l : List Rt} {xs : List Int} (h : ∀ x, x ∈ xs ↔ (∃ w ∈ l, x ∈ edgeB w.1) ∨ x = 0) : SrtN.nrm xs = edges l :=
  sasc_unique (nrm_spec xs).1 (edges_asc l) fun x => by rw [(nrm_spec xs).2, h, edges_mem]
end Go.Proofs.YthkjkmgbdahggaaGreat.SetMath
