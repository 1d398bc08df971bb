/- FnSetOf: the smallest block over two, whether two meet, neighbours in a set. On the condition that the blocks are valid. -/
import Derived.Test.YthkjkmgbdahggaaSetsE
import Derived.Lib.ItoaNum
import Derived.Lib.BitFns
import Derived.Test.YthkjkmgbdahggaaPOx12
import Derived.Test.YthkjkmgbdahggaaPOx12
import Derived.Test.YthkjkmgbdahggaaPOx9
namespace Go.Proofs.Ythkjkmgbdahggaa.Sets
open Go.RowKit Go.Proofs.Ythkjkmgbdahggaa.PO Go.Proofs.YthkjkmgbdahggaaW.PrintWords Go.Proofs.YthkjkmgbdahggaaW.PrintLast Go.Proofs.YthkjkmgbdahggaaW.PrintMore Go.Proofs.Ythkjkmgbdahggaa.SetMath
set_option linter.unusedVariables false
set_option linter.unusedSimpArgs false

theorem bitLen_iff {z k : Nat} (hz : z < 2 ^ 64) (hk : k ≤ 64) : Lib.bitLen z ≤ k ↔ z < 2 ^ k := by
  constructor
  · intro h
    by_cases h0 : z = 0
    · subst h0; exact Nat.two_pow_pos k
    · exact Nat.lt_of_lt_of_le (Lib.bitLenAux_bounds 64 z hz h0).2.2 (Nat.pow_le_pow_right (by decide) h)
  · exact Lib.bitLen_le z k hk
theorem xor_zero_iff {a b : Nat} : a ^^^ b = 0 ↔ a = b := by
  constructor
  · intro h
    have : a ^^^ b ^^^ b = b := by rw [h, Nat.zero_xor]
    rwa [Nat.xor_assoc, Nat.xor_self, Nat.xor_zero] at this
  · rintro rfl; exact Nat.xor_self a
theorem over_iff {x y m : Nat} (hx : x < 4294967296) (hy : y < 4294967296) (hm : m ≤ 32) : m ≤ 32 - Lib.bitLen (x ^^^ y) ↔ x / 2 ^ (32 - m) = y / 2 ^ (32 - m) := by
  have hz : x ^^^ y < 2 ^ 32 := Nat.xor_lt_two_pow hx hy
  have h32 : Lib.bitLen (x ^^^ y) ≤ 32 := Lib.bitLen_le _ 32 (by omega) hz
  have h1 : m ≤ 32 - Lib.bitLen (x ^^^ y) ↔ Lib.bitLen (x ^^^ y) ≤ 32 - m := by omega
  rw [h1, bitLen_iff (Nat.lt_trans hz (by decide)) (by omega), ← Nat.shiftRight_eq_div_pow, ← Nat.shiftRight_eq_div_pow, ← xor_zero_iff, ← Nat.shiftRight_xor_distrib, Nat.shiftRight_eq_div_pow]
  exact (Nat.div_eq_zero_iff_lt (Nat.two_pow_pos _)).symm
theorem xor_eq {a b : Nat} (ha : a < 4294967296) (hb : b < 4294967296) : Go.bits .xor .i64 (a : Int) (b : Int) = ((a ^^^ b : Nat) : Int) := by
  have hz : ∀ c : Nat, c < 4294967296 → (BitVec.ofInt 64 (c : Int)).toNat = c := by
    intro c hc
    rw [BitVec.ofInt_natCast, BitVec.toNat_ofNat, Nat.mod_eq_of_lt (by omega)]
  unfold Go.bits
  simp only
  show IntKind.wrap .i64 ((BitVec.ofInt 64 (a : Int) ^^^ BitVec.ofInt 64 (b : Int)).toNat : Int) = _
  rw [BitVec.toNat_xor, hz a ha, hz b hb, i64_w]
  have : a ^^^ b < 2 ^ 32 := Nat.xor_lt_two_pow ha hb
  rw [w64 (by omega) (by omega)]
/-- How many bits two addresses share. -/
def shared (x y : Int) : Nat := 32 - Lib.bitLen (x.toNat ^^^ y.toNat)
theorem zeros_eq {x y : Int} (h0 : 0 ≤ x) (h1 : x ≤ 4294967295) (h2 : 0 ≤ y) (h3 : y ≤ 4294967295) : bits_LeadingZeros32.f ((Go.bits .xor .i64 x y) % 4294967296) = some (shared x y : Int) := by
  obtain ⟨a, rfl⟩ : ∃ a : Nat, x = a := ⟨x.toNat, by omega⟩
  obtain ⟨b, rfl⟩ : ∃ b : Nat, y = b := ⟨y.toNat, by omega⟩
  have hz : a ^^^ b < 2 ^ 32 := Nat.xor_lt_two_pow (by omega) (by omega)
  have h32 : Lib.bitLen (a ^^^ b) ≤ 32 := Lib.bitLen_le _ 32 (by omega) hz
  rw [xor_eq (by omega) (by omega)]
  unfold bits_LeadingZeros32.f bits_Len32.f shared
  rw [show ((a ^^^ b : Nat) : Int) % 4294967296 = ((a ^^^ b : Nat) : Int) from by omega, if_pos (by omega)]
  simp only [Option.bind_some, Int.toNat_natCast]
  rw [w64 (by omega) (by omega)]
  congr 1; omega
theorem shared_iff {x y : Int} (h0 : 0 ≤ x) (h1 : x ≤ 4294967295) (h2 : 0 ≤ y) (h3 : y ≤ 4294967295) {m : Nat} (hm : m ≤ 32) : m ≤ shared x y ↔ x / sz m = y / sz m := by
  obtain ⟨a, rfl⟩ : ∃ a : Nat, x = a := ⟨x.toNat, by omega⟩
  obtain ⟨b, rfl⟩ : ∃ b : Nat, y = b := ⟨y.toNat, by omega⟩
  unfold shared
  rw [Int.toNat_natCast, Int.toNat_natCast, over_iff (by omega) (by omega) hm]
  have e : sz m = ((2 ^ (32 - m) : Nat) : Int) := by unfold sz; rw [Int.natCast_pow]; rfl
  rw [e, ← Int.natCast_ediv, ← Int.natCast_ediv]
  exact Int.ofNat_inj.symm
theorem shared_le (x y : Int) : shared x y ≤ 32 := by unfold shared; omega
def overB (x y : S40) : Nat := min (min (shared x.f0 y.f0) x.f1.toNat) y.f1.toNat
theorem mnO (a b : Int) : mn a b = min a b := by unfold mn; split <;> omega
theorem overI_ev {x y : S40} (hx : okI x) (hy : okI y) : Ev (fun k => impl_BlockOver.f k x.f0 x.f1 y.f0 y.f1) (x.f0 / sz (overB x y) * sz (overB x y), (overB x y : Int)) := by
  unfold impl_BlockOver.f
  rw [blockOk_eq, blockOk_eq, decide_eq_true (show okI ⟨x.f0, x.f1⟩ from hx), decide_eq_true (show okI ⟨y.f0, y.f1⟩ from hy)]
  obtain ⟨x0, x1, x2, x3, x4⟩ := hx
  obtain ⟨y0, y1, y2, y3, y4⟩ := hy
  simp only [Option.bind_some, if_true, Bool.not_true]
  refine Ev.succ ?_
  simp only [impl_BlockOver.j0]
  refine Ev.iteF (by decide) ?_
  rw [zeros_eq x0 x1 y0 y1]
  have hm : mn (mn (shared x.f0 y.f0 : Int) x.f1) y.f1 = (overB x y : Int) := by rw [mnO, mnO]; unfold overB; omega
  have h32 : overB x y ≤ 32 := by unfold overB; have := shared_le x.f0 y.f0; omega
  simp only [Option.bind_some]
  rw [hm, around_eq h32 x0 (by omega)]
  exact Ev.now _
theorem meetsI_eq {x y : S40} (hx : okI x) (hy : okI y) (h : x.f0 + sz x.f1.toNat ≤ y.f0) : impl_BlockMeets.f x.f0 x.f1 y.f0 y.f1 = some false := by
  have hp := sz_pos x.f1.toNat
  have e1 : impl_BlockIn.f x.f0 x.f1 y.f0 y.f1 = some false := by
    unfold impl_BlockIn.f
    rw [blockOk_eq, blockOk_eq, decide_eq_true (show okI ⟨x.f0, x.f1⟩ from hx), decide_eq_true (show okI ⟨y.f0, y.f1⟩ from hy)]
    simp only [Option.bind_some, if_true]
    rw [has_eq hx, decide_eq_false (by omega)]
    split <;> rfl
  have e2 : impl_BlockIn.f y.f0 y.f1 x.f0 x.f1 = some false := by
    unfold impl_BlockIn.f
    rw [blockOk_eq, blockOk_eq, decide_eq_true (show okI ⟨x.f0, x.f1⟩ from hx), decide_eq_true (show okI ⟨y.f0, y.f1⟩ from hy)]
    simp only [Option.bind_some, if_true]
    rw [has_eq hy, decide_eq_false (by omega)]
    split <;> rfl
  unfold impl_BlockMeets.f
  rw [e1, e2]; rfl
/-! ### neighbours -/
def Next (p q : Int × Nat) : Prop := p.1 + sz p.2 ≤ q.1 ∧ (p.2 = q.2 → q.1 = p.1 + sz p.2 → p.2 = 0 ∨ ¬ sz (p.2 - 1) ∣ p.1)
theorem chain_append {α : Type} {R : α → α → Prop} : ∀ {l r : List α}, chain R l → chain R r → (∀ a ∈ l, ∀ b ∈ r, R a b) → chain R (l ++ r)
  | [], _, _, h, _ => h
  | [a], [], _, _, _ => trivial
  | [a], b :: r, _, h, hh => ⟨hh a (by simp) b (by simp), h⟩
  | a :: b :: l, r, h, hr, hh => ⟨h.1, chain_append (l := b :: l) h.2 hr (fun x hx y hy => hh x (List.mem_cons_of_mem _ hx) y hy)⟩
theorem chain_imp {α : Type} {R S : α → α → Prop} (h : ∀ a b, R a b → S a b) : ∀ {l : List α}, chain R l → chain S l
  | [], _ => trivial
  | [_], _ => trivial
  | a :: b :: l, hc => ⟨h a b hc.1, chain_imp h (l := b :: l) hc.2⟩
theorem covers_next : ∀ {l : List (Int × Int)}, Canon l → Within l → chain Next (covers l)
  | [], _, _ => by simp [covers, chain]
  | s :: l, hc, hw => by
    obtain ⟨h1, h2, h3⟩ := Canon.cons.1 hc
    obtain ⟨w0, w1⟩ := hw s (by simp)
    have hwl : Within l := fun t ht => hw t (by simp [ht])
    rw [covers_cons]
    refine chain_append (chain_imp (fun a b (h : Linked a b) => ⟨by rw [h.1]; exact Int.le_refl _, fun e _ => h.2 e⟩) (cover_linked s.1)) (covers_next h3 hwl) ?_
    intro a ha b hb
    obtain ⟨_, a1, a2⟩ := cover_ok w1 s.1 w0 a ha
    obtain ⟨t, ht, hbt⟩ := List.mem_flatMap.1 hb
    obtain ⟨t0, t1⟩ := hwl t ht
    obtain ⟨_, b1, _⟩ := cover_ok t1 t.1 t0 b hbt
    have := h1 t ht
    exact ⟨by omega, fun _ e => by omega⟩
theorem chain_map {α β : Type} {R : β → β → Prop} {f : α → β} : ∀ {l : List α}, chain R (l.map f) → chain (fun a b => R (f a) (f b)) l
  | [], _ => trivial
  | [_], _ => trivial
  | a :: b :: l, h => ⟨h.1, chain_map (l := b :: l) h.2⟩
theorem setOk_next {l : List S40} (h : SetOk l) : chain (fun x y => Next (toB x) (toB y)) l := by
  refine chain_map (R := Next) (f := toB) ?_
  rw [← h.2.2, map_to_ofB]
  exact covers_next (canon_spec (spansOf_good l)).1 (canon_within (spansOf_good l) (spansOf_within h.2.1))
/-- Two neighbours of one size are no two halves. -/
theorem not_halves {x y : S40} (hx : okI x) (hy : okI y) (hn : Next (toB x) (toB y)) (he : x.f1 = y.f1) : sz (overB x y) ≠ sz x.f1.toNat + sz y.f1.toNat := by
  intro hs
  obtain ⟨x0, x1, x2, x3, x4⟩ := hx
  obtain ⟨y0, y1, y2, y3, y4⟩ := hy
  obtain ⟨n1, n2⟩ := hn
  rw [← he] at hs y4
  have hev : (toB x).2 = (toB y).2 := by simp [toB, he]
  simp only [toB] at n1 n2
  have n2 := n2 (by rw [he])
  generalize hb : x.f1.toNat = b at *
  have hb32 : b ≤ 32 := by omega
  have hp := sz_pos b
  have hle : overB x y ≤ b := by unfold overB; omega
  have hlt : overB x y < b := by
    rcases Nat.lt_or_ge (overB x y) b with h | h
    · exact h
    · rw [Nat.le_antisymm hle h] at hs; omega
  have hb1 : overB x y ≤ b - 1 := by omega
  have e2 : sz (b - 1) = 2 * sz b := by rw [sz_succ (by omega), show b - 1 + 1 = b by omega]
  have hsh : overB x y = shared x.f0 y.f0 := by unfold overB at hlt ⊢; omega
  have hdiv : (b - 1 : Nat) ≤ shared x.f0 y.f0 := by
    rw [← hsh]
    rcases Nat.lt_or_ge (overB x y) (b - 1) with h | h
    · have := sz_le (c := overB x y) (b := b - 1 - 1) (by omega)
      have e3 : sz (b - 1 - 1) = 2 * sz (b - 1) := by rw [sz_succ (by omega), show b - 1 - 1 + 1 = b - 1 by omega]
      omega
    · exact h
  have hq := (shared_iff x0 x1 y0 y1 (show b - 1 ≤ 32 by omega)).1 hdiv
  rw [e2] at hq
  obtain ⟨u, hu⟩ := x4
  obtain ⟨v, hv⟩ := y4
  rw [hu, hv, Int.mul_comm 2, Int.mul_ediv_mul_of_pos _ _ hp, Int.mul_ediv_mul_of_pos _ _ hp] at hq
  have huv : u + 1 ≤ v := by
    have h1 : sz b * (u + 1) ≤ sz b * v := by rw [Int.mul_add, ← hu, ← hv, Int.mul_one]; exact n1
    exact Int.le_of_mul_le_mul_left h1 hp
  have hv1 : v = u + 1 := by omega
  have hu2 : u = 2 * (u / 2) := by omega
  rcases n2 (by rw [hv, hu, hv1, Int.mul_add, Int.mul_one]) with h | h
  · omega
  · exact h ⟨u / 2, by rw [e2, hu]; conv => lhs; rw [hu2]
                       rw [Int.mul_left_comm, Int.mul_assoc]⟩
theorem limitedO_eq (l : List S40) : impl_limited.f l = some (if l.length ≤ 64 then (l, true) else ([], false)) := by
  unfold impl_limited.f
  by_cases h : l.length ≤ 64
  · rw [if_pos h, if_neg (by omega)]
  · rw [if_neg h, if_pos (by omega)]
theorem setOfI_ev (l : List S40) : Ev (fun k => impl_SetOf.f k l) (setOf l) := by
  unfold impl_SetOf.f setOf
  refine Ev.bind blocksOk_ev ?_
  by_cases h : l.length ≤ 64 ∧ ∀ x ∈ l, okI x
  · refine Ev.iteT (decide_eq_true h) (Ev.bind (spans_ev (by omega) h.2) ?_)
    have hs : (spansOf l).length = l.length := by simp [spansOf]
    refine Ev.bind (set_ev (l := spansOf l) (by omega) (spansOf_good l) (spansOf_within h.2)) ?_
    rw [if_pos h, limitedO_eq]
    exact Ev.now _
  · refine Ev.iteF (by simpa using h) ?_
    rw [if_neg h]; exact Ev.now _
end Go.Proofs.Ythkjkmgbdahggaa.Sets
