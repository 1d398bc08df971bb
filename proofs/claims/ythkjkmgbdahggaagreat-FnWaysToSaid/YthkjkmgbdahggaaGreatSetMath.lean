/- Plain mathematics of address sets: the fewest blocks of a span, canonical lists of spans, their union; no program in sight. -/
namespace Go.Proofs.YthkjkmgbdahggaaGreat.SetMath
theorem pow_dvd {a b : Nat} (h : a ≤ b) : (2 : Int) ^ a ∣ 2 ^ b := ⟨2 ^ (b - a), by rw [← Int.pow_add]; congr 1; omega⟩
def sz (b : Nat) : Int := 2 ^ (32 - b)
theorem sz_pos (b : Nat) : 0 < sz b := by unfold sz; exact Int.pow_pos (by decide)
theorem sz_dvd {c b : Nat} (h : c ≤ b) : sz b ∣ sz c := by
  unfold sz
  exact pow_dvd (by omega)
theorem sz_le {c b : Nat} (h : c ≤ b) : sz b ≤ sz c := Int.le_of_dvd (sz_pos c) (sz_dvd h)
theorem sz_32 : sz 32 = 1 := by decide
theorem sz_0 : sz 0 = 4294967296 := by decide
def fits (a to : Int) (b : Nat) : Bool := decide (sz b ∣ a) && decide (a + sz b - 1 ≤ to)
def firstB (a to : Int) : Nat := ((List.range 33).find? (fits a to)).getD 32
theorem fits_iff {a to : Int} {b : Nat} : fits a to b = true ↔ sz b ∣ a ∧ a + sz b - 1 ≤ to := by simp [fits]
theorem first_spec {a to : Int} (h : a ≤ to) : firstB a to ≤ 32 ∧ fits a to (firstB a to) = true ∧ ∀ c, c < firstB a to → fits a to c = false := by
  have h32 : fits a to 32 = true := by rw [fits_iff, sz_32]; exact ⟨Int.one_dvd a, by omega⟩
  unfold firstB
  cases e : (List.range 33).find? (fits a to) with
  | none =>
    rw [List.find?_eq_none] at e
    exact absurd h32 (by simpa using e 32 (by simp))
  | some b =>
    rw [List.find?_range_eq_some] at e
    obtain ⟨h1, h2, h3⟩ := e
    simp at h2
    refine ⟨by simp; omega, by simpa using h1, fun c hc => ?_⟩
    have := h3 c (by simpa using hc)
    simpa using this
theorem first_unique {a to : Int} {b : Nat} (hb : fits a to b = true) (_h3 : b ≤ 32) (hl : ∀ c, c < b → fits a to c = false) : firstB a to = b := by
  have h : a ≤ to := by have := (fits_iff.1 hb).2; have := sz_pos b; omega
  obtain ⟨h1, h2, h4⟩ := first_spec h
  rcases Nat.lt_trichotomy (firstB a to) b with h | h | h
  · rw [hl _ h] at h2; cases h2
  · exact h
  · rw [h4 _ h] at hb; cases hb
def cover (a to : Int) : List (Int × Nat) :=
  if a ≤ to then (a, firstB a to) :: cover (a + sz (firstB a to)) to else []
termination_by (to + 1 - a).toNat
decreasing_by have := sz_pos (firstB a to); omega
theorem cover_nil {a to : Int} (h : ¬ a ≤ to) : cover a to = [] := by rw [cover, if_neg h]
theorem cover_cons {a to : Int} (h : a ≤ to) : cover a to = (a, firstB a to) :: cover (a + sz (firstB a to)) to := by rw [cover, if_pos h]
theorem cover_ind {P : Int → Prop} (to : Int) (h0 : ∀ a, ¬ a ≤ to → P a) (h1 : ∀ a, a ≤ to → P (a + sz (firstB a to)) → P a) (a : Int) : P a := by
  generalize hn : (to + 1 - a).toNat = n
  induction n using Nat.strongRecOn generalizing a with
  | _ n ih =>
    by_cases h : a ≤ to
    · refine h1 a h (ih _ ?_ _ rfl)
      have := sz_pos (firstB a to); omega
    · exact h0 a h
theorem desc_len (to : Int) : ∀ (e : Nat) (a : Int), e ≤ 32 → (2 : Int) ^ e ∣ a → to - a + 1 < 2 ^ e → (cover a to).length ≤ e := by
  intro e
  induction e with
  | zero => intro a _ _ h; rw [cover_nil (by simp at h; omega)]; simp
  | succ e ih =>
    intro a he hd hr
    have hd' : (2 : Int) ^ e ∣ a := Int.dvd_trans (pow_dvd (by omega)) hd
    by_cases h : to - a + 1 < 2 ^ e
    · have := ih a (by omega) hd' h; omega
    · have hp : (0 : Int) < 2 ^ e := Int.pow_pos (by decide)
      have hf : firstB a to = 32 - e := by
        refine first_unique ?_ (by omega) ?_
        · rw [fits_iff]; unfold sz; rw [show 32 - (32 - e) = e by omega]; exact ⟨hd', by omega⟩
        · intro c hc
          cases hx : fits a to c with
          | false => rfl
          | true =>
            rw [fits_iff] at hx
            have h2 : (2 : Int) ^ (e + 1) ≤ sz c := by unfold sz; exact Int.le_of_dvd (Int.pow_pos (by decide)) (pow_dvd (by omega))
            omega
      rw [cover_cons (by omega), hf]
      have hs : sz (32 - e) = 2 ^ e := by unfold sz; rw [show 32 - (32 - e) = e by omega]
      rw [hs]
      have := ih (a + 2 ^ e) (by omega) (Int.dvd_add hd' (Int.dvd_refl _)) (by rw [Int.pow_succ] at hr; omega)
      simp; omega
theorem asc_len (to : Int) (ht : to < 4294967296) : ∀ (m : Nat) (a : Int), m ≤ 32 → (2 : Int) ^ (32 - m) ∣ a → 0 ≤ a → a ≤ to + 1 → (cover a to).length ≤ m + 32 := by
  intro m
  induction m with
  | zero =>
    intro a _ hd h0 h1
    obtain ⟨q, rfl⟩ := hd
    by_cases hq : q = 0
    · subst hq
      by_cases h : to - 0 + 1 < 2 ^ 32
      · have := desc_len to 32 0 (by omega) (Int.dvd_zero _) h
        simpa using this
      · have ht' : to = 4294967295 := by simp at h; omega
        subst ht'
        have hf : firstB 0 4294967295 = 0 := by
          refine first_unique ?_ (by omega) (by intro c hc; omega)
          rw [fits_iff, sz_0]; exact ⟨Int.dvd_zero _, by omega⟩
        show (cover 0 4294967295).length ≤ 32
        rw [cover_cons (by omega), hf, sz_0, cover_nil (by omega)]; simp
    · rw [cover_nil (by simp at h0 h1 ⊢; omega)]; simp
  | succ m ih =>
    intro a hm hd h0 h1
    have e1 : 32 - m = (32 - (m + 1)) + 1 := by omega
    generalize hv : 32 - (m + 1) = v at *
    rw [e1] at ih
    have hp : (0 : Int) < 2 ^ v := Int.pow_pos (by decide)
    by_cases hdd : (2 : Int) ^ (v + 1) ∣ a
    · have := ih a (by omega) hdd h0 h1; omega
    · by_cases hr : to - a + 1 < 2 ^ v
      · have := desc_len to v a (by omega) hd hr; omega
      · have hf : firstB a to = 32 - v := by
          refine first_unique ?_ (by omega) ?_
          · rw [fits_iff]; unfold sz; rw [show 32 - (32 - v) = v by omega]; exact ⟨hd, by omega⟩
          · intro c hc
            cases hx : fits a to c with
            | false => rfl
            | true =>
              rw [fits_iff] at hx
              exact absurd (Int.dvd_trans (by unfold sz; exact pow_dvd (by omega)) hx.1) hdd
        rw [cover_cons (by omega), hf]
        have hs : sz (32 - v) = 2 ^ v := by unfold sz; rw [show 32 - (32 - v) = v by omega]
        rw [hs]
        have hd2 : (2 : Int) ^ (v + 1) ∣ a + 2 ^ v := by
          obtain ⟨q, rfl⟩ := hd
          have : q % 2 = 1 := by
            rcases Int.emod_two_eq q with h | h
            · exact absurd (by rw [Int.pow_succ]; obtain ⟨z, rfl⟩ : ∃ z, q = 2 * z := ⟨q / 2, by omega⟩; exact ⟨z, by rw [Int.mul_assoc]⟩) hdd
            · exact h
          obtain ⟨z, rfl⟩ : ∃ z, q = 2 * z + 1 := ⟨q / 2, by omega⟩
          refine ⟨z + 1, ?_⟩
          rw [Int.pow_succ, Int.mul_add, Int.mul_add, Int.mul_one, Int.mul_one, Int.mul_assoc]
          have : (2 : Int) ^ v * 2 = 2 ^ v + 2 ^ v := by omega
          omega
        have := ih (a + 2 ^ v) (by omega) hd2 (by omega) (by omega)
        simp; omega
theorem cover_len {a to : Int} (h0 : 0 ≤ a) (ht : to < 4294967296) : (cover a to).length ≤ 64 := by
  by_cases h : a ≤ to
  · exact asc_len to ht 32 a (by omega) (by simp) h0 (by omega)
  · rw [cover_nil h]; simp
def okB (b : Int × Nat) : Prop := 0 ≤ b.1 ∧ b.1 ≤ 4294967295 ∧ b.2 ≤ 32 ∧ sz b.2 ∣ b.1
def spanOf (b : Int × Nat) : Int × Int := (b.1, b.1 + sz b.2 - 1)
def memS (l : List (Int × Int)) (x : Int) : Prop := ∃ s ∈ l, s.1 ≤ x ∧ x ≤ s.2
theorem memS_nil (x : Int) : ¬ memS [] x := by rintro ⟨s, h, _⟩; cases h
theorem memS_cons {s : Int × Int} {l : List (Int × Int)} {x : Int} : memS (s :: l) x ↔ (s.1 ≤ x ∧ x ≤ s.2) ∨ memS l x := by
  constructor
  · rintro ⟨t, h, ht⟩
    rcases List.mem_cons.1 h with rfl | h
    · exact .inl ht
    · exact .inr ⟨t, h, ht⟩
  · rintro (h | ⟨t, h, ht⟩)
    · exact ⟨s, by simp, h⟩
    · exact ⟨t, by simp [h], ht⟩
theorem memS_append {l r : List (Int × Int)} {x : Int} : memS (l ++ r) x ↔ memS l x ∨ memS r x := by
  induction l with
  | nil => simp [memS_nil]
  | cons s l ih => simp [memS_cons, ih, or_assoc]
theorem dvd_end {a : Int} {b : Nat} (h : sz b ∣ a) (ha : a ≤ 4294967295) : a + sz b - 1 ≤ 4294967295 := by
  obtain ⟨q, rfl⟩ := h
  obtain ⟨p, hp⟩ := sz_dvd (c := 0) (b := b) (by omega)
  rw [sz_0] at hp
  have hs := sz_pos b
  have : q < p := by
    have h1 : sz b * q < sz b * p := by omega
    exact Int.lt_of_mul_lt_mul_left h1 (by omega)
  have h2 : sz b * (q + 1) ≤ sz b * p := Int.mul_le_mul_of_nonneg_left (by omega) (by omega)
  rw [Int.mul_add, Int.mul_one] at h2
  omega
theorem okB_end {b : Int × Nat} (h : okB b) : b.1 + sz b.2 - 1 ≤ 4294967295 := dvd_end h.2.2.2 h.2.1
theorem cover_mem {to : Int} (a x : Int) : memS ((cover a to).map spanOf) x ↔ a ≤ x ∧ x ≤ to := by
  refine cover_ind (P := fun a => memS ((cover a to).map spanOf) x ↔ a ≤ x ∧ x ≤ to) to ?_ ?_ a
  · intro a h; rw [cover_nil h]; simp [memS_nil]; omega
  · intro a h ih
    obtain ⟨_, h2, _⟩ := first_spec h
    have h3 := (fits_iff.1 h2).2
    have hp := sz_pos (firstB a to)
    rw [cover_cons h, List.map_cons, memS_cons, ih]
    simp only [spanOf]
    omega
theorem cover_ok {to : Int} (ht : to ≤ 4294967295) (a : Int) : 0 ≤ a → ∀ b ∈ cover a to, okB b ∧ a ≤ b.1 ∧ b.1 + sz b.2 - 1 ≤ to := by
  refine cover_ind (P := fun a => 0 ≤ a → ∀ b ∈ cover a to, okB b ∧ a ≤ b.1 ∧ b.1 + sz b.2 - 1 ≤ to) to ?_ ?_ a
  · intro a h _ b hb; rw [cover_nil h] at hb; cases hb
  · intro a h ih h0 b hb
    obtain ⟨h1, h2, _⟩ := first_spec h
    obtain ⟨h4, h3⟩ := fits_iff.1 h2
    have hp := sz_pos (firstB a to)
    rw [cover_cons h] at hb
    rcases List.mem_cons.1 hb with rfl | hb
    · exact ⟨⟨h0, by simp; omega, h1, h4⟩, by simp, by simpa using h3⟩
    · obtain ⟨i1, i2, i3⟩ := ih (by omega) b hb
      exact ⟨i1, by omega, i3⟩
def Good (l : List (Int × Int)) : Prop := ∀ s ∈ l, s.1 ≤ s.2
def Canon (l : List (Int × Int)) : Prop := l.Pairwise (fun a b => a.2 + 1 < b.1) ∧ Good l
theorem Good.cons {s : Int × Int} {l : List (Int × Int)} : Good (s :: l) ↔ s.1 ≤ s.2 ∧ Good l := by simp [Good]
theorem Canon.cons {s : Int × Int} {l : List (Int × Int)} : Canon (s :: l) ↔ (∀ t ∈ l, s.2 + 1 < t.1) ∧ s.1 ≤ s.2 ∧ Canon l := by
  simp only [Canon, List.pairwise_cons, Good.cons]
  constructor
  · rintro ⟨⟨a, b⟩, c, d⟩; exact ⟨a, c, b, d⟩
  · rintro ⟨a, c, b, d⟩; exact ⟨⟨a, b⟩, c, d⟩
theorem canon_unique : ∀ {l r : List (Int × Int)}, Canon l → Canon r → (∀ x, memS l x ↔ memS r x) → l = r
  | [], [], _, _, _ => rfl
  | [], t :: r, _, hr, h => by
    have := (Canon.cons.1 hr).2.1
    exact absurd ((h t.1).2 (memS_cons.2 (.inl ⟨by omega, this⟩))) (memS_nil _)
  | s :: l, [], hl, _, h => by
    have := (Canon.cons.1 hl).2.1
    exact absurd ((h s.1).1 (memS_cons.2 (.inl ⟨by omega, this⟩))) (memS_nil _)
  | s :: l, t :: r, hl, hr, h => by
    obtain ⟨l1, l2, l3⟩ := Canon.cons.1 hl
    obtain ⟨r1, r2, r3⟩ := Canon.cons.1 hr
    have lo : ∀ {x}, memS l x → s.2 + 1 < x := by rintro x ⟨u, hu, h1, h2⟩; have := l1 u hu; omega
    have ro : ∀ {x}, memS r x → t.2 + 1 < x := by rintro x ⟨u, hu, h1, h2⟩; have := r1 u hu; omega
    have e1 : s.1 = t.1 := by
      have a1 := (h s.1).1 (memS_cons.2 (.inl ⟨by omega, l2⟩))
      have a2 := (h t.1).2 (memS_cons.2 (.inl ⟨by omega, r2⟩))
      rw [memS_cons] at a1 a2
      rcases a1 with a1 | a1
      · rcases a2 with a2 | a2
        · omega
        · have := lo a2; omega
      · have := ro a1
        rcases a2 with a2 | a2
        · omega
        · have := lo a2; omega
    have e2 : s.2 = t.2 := by
      rcases Int.lt_trichotomy s.2 t.2 with hx | hx | hx
      · have a := (h (s.2 + 1)).2 (memS_cons.2 (.inl ⟨by omega, by omega⟩))
        rw [memS_cons] at a
        rcases a with a | a
        · omega
        · have := lo a; omega
      · exact hx
      · have a := (h (t.2 + 1)).1 (memS_cons.2 (.inl ⟨by omega, by omega⟩))
        rw [memS_cons] at a
        rcases a with a | a
        · omega
        · have := ro a; omega
    have e : s = t := Prod.ext e1 e2
    subst e
    have : l = r := canon_unique l3 r3 fun x => by
      have hx := h x
      rw [memS_cons, memS_cons] at hx
      constructor
      · intro hm
        have := lo hm
        rcases hx.1 (.inr hm) with a | a
        · omega
        · exact a
      · intro hm
        have := ro hm
        rcases hx.2 (.inr hm) with a | a
        · omega
        · exact a
    rw [this]
def mrg : Int × Int → List (Int × Int) → List (Int × Int)
  | t, [] => [t]
  | t, s :: r => if s.1 ≤ t.2 + 1 then mrg (t.1, max t.2 s.2) r else t :: mrg s r
def merge : List (Int × Int) → List (Int × Int)
  | [] => []
  | t :: r => mrg t r
def Asc (l : List (Int × Int)) : Prop := l.Pairwise (fun a b => a.1 ≤ b.1)
theorem mrg_spec : ∀ (r : List (Int × Int)) (t : Int × Int), Asc (t :: r) → Good (t :: r) →
    Canon (mrg t r) ∧ (∀ s ∈ mrg t r, t.1 ≤ s.1) ∧ ∀ x, memS (mrg t r) x ↔ memS (t :: r) x
  | [], t, _, hg => by simp [mrg, Canon, hg]
  | s :: r, t, ha, hg => by
    obtain ⟨ha1, ha2⟩ := List.pairwise_cons.1 ha
    obtain ⟨ha3, ha4⟩ := List.pairwise_cons.1 ha2
    obtain ⟨hg1, hg2⟩ := Good.cons.1 hg
    obtain ⟨hg3, hg4⟩ := Good.cons.1 hg2
    have hts := ha1 s (by simp)
    unfold mrg
    split
    · rename_i hm
      have hasc : Asc ((t.1, max t.2 s.2) :: r) := List.pairwise_cons.2 ⟨fun u hu => ha1 u (by simp [hu]), ha4⟩
      have hgd : Good ((t.1, max t.2 s.2) :: r) := Good.cons.2 ⟨by simp; omega, hg4⟩
      obtain ⟨i1, i2, i3⟩ := mrg_spec r _ hasc hgd
      refine ⟨i1, i2, fun x => ?_⟩
      rw [i3, memS_cons, memS_cons, memS_cons]
      simp only
      constructor
      · rintro (h | h)
        · by_cases hx : x ≤ t.2
          · exact .inl ⟨h.1, hx⟩
          · exact .inr (.inl ⟨by omega, by omega⟩)
        · exact .inr (.inr h)
      · rintro (h | h | h)
        · exact .inl ⟨h.1, by omega⟩
        · exact .inl ⟨by omega, by omega⟩
        · exact .inr h
    · rename_i hm
      obtain ⟨i1, i2, i3⟩ := mrg_spec r s ha2 hg2
      refine ⟨Canon.cons.2 ⟨fun u hu => by have := i2 u hu; omega, hg1, i1⟩, ?_, fun x => ?_⟩
      · intro u hu
        rcases List.mem_cons.1 hu with rfl | hu
        · omega
        · have := i2 u hu; omega
      · rw [memS_cons, i3, memS_cons (l := s :: r)]
theorem merge_spec {l : List (Int × Int)} (ha : Asc l) (hg : Good l) : Canon (merge l) ∧ ∀ x, memS (merge l) x ↔ memS l x := by
  cases l with
  | nil => exact ⟨by simp [merge, Canon, Good], fun x => Iff.rfl⟩
  | cons t r => obtain ⟨a, _, b⟩ := mrg_spec r t ha hg; exact ⟨a, b⟩
def ins (x : Int × Int) : List (Int × Int) → List (Int × Int)
  | [] => [x]
  | s :: l => if s.1 < x.1 then s :: ins x l else x :: s :: l
def isort (l : List (Int × Int)) : List (Int × Int) := l.foldl (fun a x => ins x a) []
theorem ins_perm (x : Int × Int) : ∀ l, (ins x l).Perm (x :: l)
  | [] => .refl _
  | s :: l => by
    unfold ins
    split
    · exact ((ins_perm x l).cons s).trans (.swap x s l)
    · exact .refl _
theorem ins_asc (x : Int × Int) : ∀ {l}, Asc l → Asc (ins x l)
  | [], _ => by simp [ins, Asc]
  | s :: l, h => by
    obtain ⟨h1, h2⟩ := List.pairwise_cons.1 h
    unfold ins
    split
    · rename_i hs
      refine List.pairwise_cons.2 ⟨fun t ht => ?_, ins_asc x h2⟩
      rcases List.mem_cons.1 ((ins_perm x l).mem_iff.1 ht) with rfl | ht
      · omega
      · exact h1 t ht
    · rename_i hs
      refine List.pairwise_cons.2 ⟨fun t ht => ?_, h⟩
      rcases List.mem_cons.1 ht with rfl | ht
      · omega
      · have := h1 t ht; omega
theorem foldl_ins : ∀ (l a : List (Int × Int)), Asc a → Asc (l.foldl (fun a x => ins x a) a) ∧ (l.foldl (fun a x => ins x a) a).Perm (a ++ l)
  | [], a, h => ⟨h, by simp⟩
  | x :: l, a, h => by
    obtain ⟨i1, i2⟩ := foldl_ins l (ins x a) (ins_asc x h)
    refine ⟨i1, i2.trans ?_⟩
    refine ((ins_perm x a).append_right l).trans ?_
    simpa using (List.perm_middle (a := x) (l₁ := a) (l₂ := l)).symm
theorem isort_asc (l : List (Int × Int)) : Asc (isort l) := (foldl_ins l [] .nil).1
theorem isort_perm (l : List (Int × Int)) : (isort l).Perm l := (foldl_ins l [] .nil).2
theorem memS_perm {l r : List (Int × Int)} (h : l.Perm r) (x : Int) : memS l x ↔ memS r x :=
  ⟨fun ⟨s, hs, hx⟩ => ⟨s, h.mem_iff.1 hs, hx⟩, fun ⟨s, hs, hx⟩ => ⟨s, h.mem_iff.2 hs, hx⟩⟩
theorem good_perm {l r : List (Int × Int)} (h : l.Perm r) (hg : Good l) : Good r := fun s hs => hg s (h.mem_iff.2 hs)
def canon (l : List (Int × Int)) : List (Int × Int) := merge (isort l)
theorem canon_spec {l : List (Int × Int)} (hg : Good l) : Canon (canon l) ∧ ∀ x, memS (canon l) x ↔ memS l x := by
  obtain ⟨a, b⟩ := merge_spec (isort_asc l) (good_perm (isort_perm l).symm hg)
  exact ⟨a, fun x => (b x).trans (memS_perm (isort_perm l) x)⟩
theorem merge_eq {l m : List (Int × Int)} (hg : Good l) (hp : m.Perm l) (ha : Asc m) : merge m = canon l := by
  obtain ⟨a, b⟩ := merge_spec ha (good_perm hp.symm hg)
  obtain ⟨c, d⟩ := canon_spec hg
  exact canon_unique a c fun x => (b x).trans ((memS_perm hp x).trans (d x).symm)
theorem canon_eq {l m : List (Int × Int)} (hg : Good l) (hm : Canon m) (h : ∀ x, memS m x ↔ memS l x) : canon l = m :=
  canon_unique (canon_spec hg).1 hm fun x => ((canon_spec hg).2 x).trans (h x).symm
def covers (l : List (Int × Int)) : List (Int × Nat) := l.flatMap fun s => cover s.1 s.2
def Within (l : List (Int × Int)) : Prop := ∀ s ∈ l, 0 ≤ s.1 ∧ s.2 ≤ 4294967295
theorem covers_cons (s : Int × Int) (l : List (Int × Int)) : covers (s :: l) = cover s.1 s.2 ++ covers l := by simp [covers]
theorem covers_mem (l : List (Int × Int)) (x : Int) : memS ((covers l).map spanOf) x ↔ memS l x := by
  induction l with
  | nil => simp [covers, memS_nil]
  | cons s l ih => rw [covers_cons, List.map_append, memS_append, memS_cons, ih, cover_mem]
theorem covers_ok {l : List (Int × Int)} (h : Within l) : ∀ b ∈ covers l, okB b := by
  intro b hb
  obtain ⟨s, hs, hb⟩ := List.mem_flatMap.1 hb
  exact (cover_ok (h s hs).2 s.1 (h s hs).1 b hb).1
theorem spanOf_good (l : List (Int × Nat)) : Good (l.map spanOf) := by
  intro s hs
  obtain ⟨b, _, rfl⟩ := List.mem_map.1 hs
  have := sz_pos b.2
  simp [spanOf]; omega
theorem canon_covers {l : List (Int × Int)} (h : Canon l) : canon ((covers l).map spanOf) = l :=
  canon_eq (spanOf_good _) h fun x => (covers_mem l x).symm
theorem spans_within {l : List (Int × Nat)} (h : ∀ b ∈ l, okB b) : Within (l.map spanOf) := by
  intro s hs
  obtain ⟨b, hb, rfl⟩ := List.mem_map.1 hs
  exact ⟨(h b hb).1, okB_end (h b hb)⟩
theorem within_iff {l r : List (Int × Int)} (hg : Good l) (hm : ∀ x, memS l x ↔ memS r x) (h : Within r) : Within l := by
  intro s hs
  have g := hg s hs
  obtain ⟨t, ht, h1, h2⟩ := (hm s.1).1 ⟨s, hs, by omega, g⟩
  obtain ⟨u, hu, h3, h4⟩ := (hm s.2).1 ⟨s, hs, g, by omega⟩
  have := h t ht
  have := h u hu
  omega
theorem canon_within {l : List (Int × Int)} (hg : Good l) (h : Within l) : Within (canon l) :=
  within_iff (canon_spec hg).1.2 (canon_spec hg).2 h
def total (l : List (Int × Int)) : Int := (l.map fun s => s.2 - s.1 + 1).sum
theorem total_cons (s : Int × Int) (l : List (Int × Int)) : total (s :: l) = (s.2 - s.1 + 1) + total l := by simp [total]
theorem total_append (l r : List (Int × Int)) : total (l ++ r) = total l + total r := by simp [total]
theorem cover_total {to : Int} (a : Int) : a ≤ to + 1 → total ((cover a to).map spanOf) = to - a + 1 := by
  refine cover_ind (P := fun a => a ≤ to + 1 → total ((cover a to).map spanOf) = to - a + 1) to ?_ ?_ a
  · intro a h h1; rw [cover_nil h]; simp [total]; omega
  · intro a h ih _
    obtain ⟨_, h2, _⟩ := first_spec h
    have h3 := (fits_iff.1 h2).2
    rw [cover_cons h, List.map_cons, total_cons, ih (by omega)]
    simp only [spanOf]; omega
theorem covers_total {l : List (Int × Int)} (hg : Good l) : total ((covers l).map spanOf) = total l := by
  induction l with
  | nil => rfl
  | cons s l ih =>
    obtain ⟨g1, g2⟩ := Good.cons.1 hg
    rw [covers_cons, List.map_append, total_append, total_cons, ih g2, cover_total _ (by omega)]
def Apart (l : List (Int × Int)) : Prop := l.Pairwise (fun a b => a.2 < b.1)
theorem mrg_total : ∀ (r : List (Int × Int)) (t : Int × Int), Apart (t :: r) → Good (t :: r) → total (mrg t r) = total (t :: r)
  | [], _, _, _ => rfl
  | s :: r, t, ha, hg => by
    obtain ⟨ha1, ha2⟩ := List.pairwise_cons.1 ha
    obtain ⟨ha3, ha4⟩ := List.pairwise_cons.1 ha2
    obtain ⟨hg1, hg2⟩ := Good.cons.1 hg
    obtain ⟨hg3, hg4⟩ := Good.cons.1 hg2
    have hts := ha1 s (by simp)
    unfold mrg
    split
    · rename_i hm
      have e : max t.2 s.2 = s.2 := by omega
      rw [e]
      rw [mrg_total r (t.1, s.2) (List.pairwise_cons.2 ⟨fun u hu => ha3 u hu, ha4⟩) (Good.cons.2 ⟨by simp; omega, hg4⟩)]
      simp only [total_cons]; omega
    · rw [total_cons, mrg_total r s ha2 hg2, total_cons t]
theorem merge_total {l : List (Int × Int)} (ha : Apart l) (hg : Good l) : total (merge l) = total l := by
  cases l with
  | nil => rfl
  | cons t r => exact mrg_total r t ha hg
theorem apart_asc {l : List (Int × Int)} (ha : Apart l) (hg : Good l) : Asc l := by
  induction l with
  | nil => exact .nil
  | cons s l ih =>
    obtain ⟨p1, p2⟩ := List.pairwise_cons.1 ha
    obtain ⟨g1, g2⟩ := Good.cons.1 hg
    exact List.pairwise_cons.2 ⟨fun t ht => by have := p1 t ht; omega, ih p2 g2⟩
theorem canon_apart {l : List (Int × Int)} (ha : Apart l) (hg : Good l) : canon l = merge l := (merge_eq hg (.refl _) (apart_asc ha hg)).symm
theorem canon_total {l : List (Int × Int)} (ha : Apart l) (hg : Good l) : total (canon l) = total l := by rw [canon_apart ha hg, merge_total ha hg]
end Go.Proofs.YthkjkmgbdahggaaGreat.SetMath
