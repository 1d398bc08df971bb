/- Sets of blocks on the law side, their size, and what the draws of blocks and sets answer. -/
import Derived.Test.YthkjkmgbdahggaaSetsD
import Derived.Test.YthkjkmgbdahggaaDraw
import Derived.Test.YthkjkmgbdahggaaPLx12
namespace Go.Proofs.Ythkjkmgbdahggaa.Sets
open Go.RowKit Go.Proofs.Ythkjkmgbdahggaa.PL Go.Proofs.YthkjkmgbdahggaaW.PrintWords Go.Proofs.YthkjkmgbdahggaaW.PrintLast Go.Proofs.YthkjkmgbdahggaaW.PrintMore Go.Proofs.Ythkjkmgbdahggaa.SetMath
set_option linter.unusedVariables false
set_option linter.unusedSimpArgs false
def setOf (l : List S40) : List S40 × Bool :=
  if l.length ≤ 64 ∧ ∀ x ∈ l, okI x then (if ((covers (canon (spansOf l))).map ofB).length ≤ 64 then ((covers (canon (spansOf l))).map ofB, true) else ([], false)) else ([], false)
theorem setOf_ok (l : List S40) : (setOf l).1.length ≤ 64 ∧ ∀ x ∈ (setOf l).1, okI x := by
  unfold setOf
  split
  · rename_i h
    split
    · rename_i h2
      refine ⟨h2, fun x hx => ?_⟩
      obtain ⟨b, hb, rfl⟩ := List.mem_map.1 hx
      exact okI_ofB (covers_ok (canon_within (spansOf_good l) (spansOf_within h.2)) b hb)
    · simp
  · simp
theorem setOfS_ev {l : List S40} (hl : l.length < 8796093022208) : Ev (fun k => spec_SetOf.f k l) (setOf l) := by
  unfold spec_SetOf.f setOf
  refine Ev.bind (l2Blocks_ev hl) ?_
  by_cases h : l.length ≤ 64 ∧ ∀ x ∈ l, okI x
  · refine Ev.iteT (decide_eq_true h) (Ev.bind (l2Spans_ev (by omega) h.2) (Ev.bind (cover_spans_ev h) ?_))
    rw [if_pos h]
    unfold spec_l2Room.f
    by_cases h2 : ((covers (canon (spansOf l))).map ofB).length ≤ 64
    · rw [if_pos h2, if_neg (by omega)]; exact Ev.now _
    · rw [if_neg h2, if_pos (by omega)]; exact Ev.now _
  · refine Ev.iteF (by simpa using h) ?_
    rw [if_neg h]; exact Ev.now _
theorem over_ev {a : Int} {n : Nat} (h0 : 0 ≤ a) (h1 : a ≤ 4294967295) (hn : n ≤ 32) : Ev (fun k => spec_l1Over.f k a (n : Int)) (a / sz n * sz n, (n : Int)) := by
  unfold spec_l1Over.f
  have hp := sz_pos n
  have hd := div_le hp h0
  refine Ev.bind (sizeS_ev hn) (Ev.iteF (by omega) (Ev.bind (sizeS_ev hn) ?_))
  have hq : 0 ≤ a / sz n ∧ a / sz n ≤ a := ⟨Int.ediv_nonneg h0 (by omega), Int.ediv_le_self _ h0⟩
  rw [Int.tdiv_eq_ediv_of_nonneg h0, w64 (x := a / sz n) (by omega) (by omega), w64 (by omega) (by omega)]
  exact Ev.now _
theorem over_ok {a : Int} {n : Nat} (h0 : 0 ≤ a) (h1 : a ≤ 4294967295) (hn : n ≤ 32) : okI ⟨a / sz n * sz n, (n : Int)⟩ := by
  have hd := div_le (sz_pos n) h0
  refine ⟨hd.1, by simp only; omega, by simp only; omega, by simp only; omega, ?_⟩
  exact ⟨a / sz n, by simp only [Int.toNat_natCast]; rw [Int.mul_comm]⟩
theorem l12Block_ev {l : List Int} (hb : Bytes l) (hlen : (l.length : Int) < 8796093022208) {s : Int} (h0 : 0 ≤ s) (h1 : s < 800000) : ∃ x : S40, okI x ∧ Ev (fun k => spec_l12Block.f k l s) (x.f0, x.f1, s + 7) := by
  obtain ⟨a, a0, a1, ha⟩ := l12Addr_ev hb hlen h0 (show s < 900000 by omega)
  obtain ⟨v, hv, hve⟩ := one_ev hb hlen ([32, 31, 30, 28, 24, 24, 25, 16, 8, 1, 0, 29] : List Int) (by simp) (show 0 ≤ s + 6 by omega) (by omega)
  simp only [List.mem_cons, List.not_mem_nil, or_false] at hv
  obtain ⟨n, rfl⟩ : ∃ n : Nat, v = n := ⟨v.toNat, by omega⟩
  have hn : n ≤ 32 := by omega
  refine ⟨⟨a / sz n * sz n, n⟩, over_ok a0 a1 hn, ?_⟩
  unfold spec_l12Block.f
  refine Ev.bind ha (Ev.bind hve (Ev.bind (over_ev a0 a1 hn) ?_))
  rw [show s + 7 = s + 6 + 1 from by omega]
  exact Ev.now _
theorem blocks12_l1 {l : List Int} (hb : Bytes l) (hlen : (l.length : Int) < 8796093022208) : ∀ (d : Nat) (acc : List S40) (s : Int), acc.length + d = 66 → (∀ x ∈ acc, okI x) → 0 ≤ s → s + d < 700000 →
    ∃ out s', out.length ≤ 66 ∧ (∀ x ∈ out, okI x) ∧ s ≤ s' ∧ s' ≤ s + d + 1 ∧ Ev (fun k => spec_l12Blocks.l1 k acc l s) (out, s') := by
  intro d
  induction d with
  | zero =>
    intro acc s hd hx h0 h1
    obtain ⟨v, v0, v1, hv⟩ := pick_ev hb hlen 2 (by omega) h0 (show s < 1000000 by omega)
    refine ⟨acc, s + 1, by omega, hx, by omega, by omega, Ev.succ ?_⟩
    simp only [spec_l12Blocks.l1]
    refine Ev.bind hv (Ev.iteF ?_ (Ev.now _))
    simp only
    rw [w64 (x := 64 + v) (by omega) (by omega)]; omega
  | succ d ih =>
    intro acc s hd hx h0 h1
    obtain ⟨v, v0, v1, hv⟩ := pick_ev hb hlen 2 (by omega) h0 (show s < 1000000 by omega)
    by_cases hc : (acc.length : Int) < 64 + v
    · have hok : okI (⟨2 * (acc.length : Int), 32⟩ : S40) := by
        refine ⟨by simp only; omega, by simp only; omega, by simp only; omega, by simp only; omega, ?_⟩
        show sz ((32 : Int).toNat) ∣ _
        rw [show (32 : Int).toNat = 32 from rfl, sz_32]; exact Int.one_dvd _
      have e1 : wrap64 (2 * (acc.length : Int)) = 2 * (acc.length : Int) := w64 (by omega) (by omega)
      obtain ⟨out, s', o1, o2, o3, o4, oe⟩ := ih (acc ++ [⟨2 * (acc.length : Int), 32⟩]) (s + 1) (by simp; omega) (by intro x hxm; rcases List.mem_append.1 hxm with h | h; exact hx x h; rw [List.mem_singleton] at h; rw [h]; exact hok) (by omega) (by omega)
      refine ⟨out, s', o1, o2, by omega, by omega, Ev.succ ?_⟩
      simp only [spec_l12Blocks.l1]
      refine Ev.bind hv (Ev.iteT ?_ (Ev.iteT (by omega) ?_))
      · simp only; rw [w64 (x := 64 + v) (by omega) (by omega)]; exact hc
      · simp only [e1]; exact oe
    · refine ⟨acc, s + 1, by omega, hx, by omega, by omega, Ev.succ ?_⟩
      simp only [spec_l12Blocks.l1]
      refine Ev.bind hv (Ev.iteF ?_ (Ev.now _))
      simp only
      rw [w64 (x := 64 + v) (by omega) (by omega)]; omega
theorem blocks12_l0 {l : List Int} (hb : Bytes l) (hlen : (l.length : Int) < 8796093022208) : ∀ (n : Nat) (acc : List S40) (s : Int), acc.length + n ≤ 60 → (∀ x ∈ acc, okI x) → 0 ≤ s → s + 7 * n < 600000 →
    ∃ out s', out.length ≤ 66 ∧ (∀ x ∈ out, okI x) ∧ s ≤ s' ∧ s' ≤ s + 7 * n + 70 ∧ Ev (fun k => spec_l12Blocks.l0 k acc (n : Int) l s) (out, s') := by
  intro n
  induction n with
  | zero =>
    intro acc s hd hx h0 h1
    obtain ⟨v, v0, v1, hv⟩ := pick_ev hb hlen 20 (by omega) h0 (show s < 1000000 by omega)
    by_cases hc : v = 0
    · obtain ⟨out, s', o1, o2, o3, o4, oe⟩ := blocks12_l1 hb hlen (66 - acc.length) acc (s + 1) (by omega) hx (by omega) (by omega)
      refine ⟨out, s', o1, o2, by omega, by omega, Ev.succ ?_⟩
      simp only [spec_l12Blocks.l0]
      exact Ev.iteF (by omega) (Ev.bind hv (Ev.iteT hc oe))
    · refine ⟨acc, s + 1, by omega, hx, by omega, by omega, Ev.succ ?_⟩
      simp only [spec_l12Blocks.l0]
      exact Ev.iteF (by omega) (Ev.bind hv (Ev.iteF hc (Ev.now _)))
  | succ n ih =>
    intro acc s hd hx h0 h1
    obtain ⟨x, hxo, hxe⟩ := l12Block_ev hb hlen h0 (by omega)
    obtain ⟨out, s', o1, o2, o3, o4, oe⟩ := ih (acc ++ [x]) (s + 7) (by simp; omega) (by intro y hy; rcases List.mem_append.1 hy with h | h; exact hx y h; rw [List.mem_singleton] at h; rw [h]; exact hxo) (by omega) (by omega)
    refine ⟨out, s', o1, o2, by omega, by omega, Ev.succ ?_⟩
    simp only [spec_l12Blocks.l0]
    refine Ev.iteT (by omega) (Ev.bind hxe (Ev.iteT (by omega) ?_))
    simp only
    rw [w64 (x := ((n + 1 : Nat) : Int) - 1) (by omega) (by omega), show ((n + 1 : Nat) : Int) - 1 = (n : Int) from by omega]
    exact oe
theorem l12Blocks_ev {l : List Int} (hb : Bytes l) (hlen : (l.length : Int) < 8796093022208) {s : Int} (h0 : 0 ≤ s) (h1 : s < 500000) :
    ∃ out s', out.length ≤ 66 ∧ (∀ x ∈ out, okI x) ∧ s ≤ s' ∧ s' ≤ s + 120 ∧ Ev (fun k => spec_l12Blocks.f k l s) (out, s') := by
  obtain ⟨v, v0, v1, hv⟩ := pick_ev hb hlen 6 (by omega) h0 (show s < 1000000 by omega)
  obtain ⟨n, rfl⟩ : ∃ n : Nat, v = n := ⟨v.toNat, by omega⟩
  obtain ⟨out, s', o1, o2, o3, o4, oe⟩ := blocks12_l0 hb hlen n [] (s + 1) (by simp; omega) (by simp) (by omega) (by omega)
  refine ⟨out, s', o1, o2, by omega, by omega, ?_⟩
  unfold spec_l12Blocks.f
  exact Ev.bind hv oe
theorem l12AnyBlock_ev {l : List Int} (hb : Bytes l) (hlen : (l.length : Int) < 8796093022208) {s : Int} (h0 : 0 ≤ s) (h1 : s < 500000) :
    ∃ x : S40, ∃ s', s ≤ s' ∧ s' ≤ s + 9 ∧ Ev (fun k => spec_l12AnyBlock.f k l s) (x.f0, x.f1, s') := by
  obtain ⟨x, hxo, hxe⟩ := l12Block_ev hb hlen h0 (by omega)
  obtain ⟨v, v0, v1, hv⟩ := pick_ev hb hlen 16 (by omega) (show 0 ≤ s + 7 by omega) (by omega)
  unfold spec_l12AnyBlock.f
  by_cases hc : v = 0
  · obtain ⟨u, hu, hue⟩ := one_ev hb hlen ([1, (-1), 256] : List Int) (by simp) (show 0 ≤ s + 7 + 1 by omega) (by omega)
    refine ⟨⟨wrap64 (x.f0 + u), x.f1⟩, s + 7 + 1 + 1, by omega, by omega, ?_⟩
    exact Ev.bind hxe (Ev.bind hv (Ev.iteT hc (Ev.bind hue (Ev.now _))))
  · by_cases hc2 : v = 1
    · obtain ⟨u, hu, hue⟩ := one_ev hb hlen ([(-1), 33, 0, 32] : List Int) (by simp) (show 0 ≤ s + 7 + 1 by omega) (by omega)
      refine ⟨⟨x.f0, u⟩, s + 7 + 1 + 1, by omega, by omega, ?_⟩
      exact Ev.bind hxe (Ev.bind hv (Ev.iteF hc (Ev.iteT hc2 (Ev.bind hue (Ev.now _)))))
    · refine ⟨x, s + 7 + 1, by omega, by omega, ?_⟩
      exact Ev.bind hxe (Ev.bind hv (Ev.iteF hc (Ev.iteF hc2 (Ev.now _))))
theorem l12Set_ev {l : List Int} (hb : Bytes l) (hlen : (l.length : Int) < 8796093022208) {s : Int} (h0 : 0 ≤ s) (h1 : s < 500000) :
    ∃ out s', out.length ≤ 64 ∧ s ≤ s' ∧ s' ≤ s + 120 ∧ Ev (fun k => spec_l12Set.f k l s) (out, s') := by
  obtain ⟨bl, s', o1, o2, o3, o4, oe⟩ := l12Blocks_ev hb hlen h0 h1
  have hs := setOfS_ev (l := bl) (by omega)
  have hk := setOf_ok bl
  unfold spec_l12Set.f
  by_cases h : (setOf bl).2 = true
  · exact ⟨(setOf bl).1, s', hk.1, o3, o4, Ev.bind oe (Ev.bind hs (Ev.iteT h (Ev.now _)))⟩
  · exact ⟨[], s', by simp, o3, o4, Ev.bind oe (Ev.bind hs (Ev.iteF h (Ev.now _)))⟩
theorem l12AnySet_ev {l : List Int} (hb : Bytes l) (hlen : (l.length : Int) < 8796093022208) {s : Int} (h0 : 0 ≤ s) (h1 : s < 400000) :
    ∃ out s', out.length ≤ 66 ∧ s ≤ s' ∧ s' ≤ s + 200 ∧ Ev (fun k => spec_l12AnySet.f k l s) (out, s') := by
  obtain ⟨v, v0, v1, hv⟩ := pick_ev hb hlen 8 (by omega) h0 (show s < 1000000 by omega)
  unfold spec_l12AnySet.f
  by_cases hc : v = 0
  · obtain ⟨bl, s', o1, o2, o3, o4, oe⟩ := l12Blocks_ev hb hlen (show 0 ≤ s + 1 by omega) (by omega)
    exact ⟨bl, s', by omega, by omega, by omega, Ev.bind hv (Ev.iteT hc (Ev.bind oe (Ev.now _)))⟩
  · obtain ⟨st, s', o1, o3, o4, oe⟩ := l12Set_ev hb hlen (show 0 ≤ s + 1 by omega) (by omega)
    by_cases hc2 : v = 1
    · obtain ⟨x, s2, x1, x2, xe⟩ := l12AnyBlock_ev hb hlen (show 0 ≤ s' by omega) (by omega)
      exact ⟨st ++ [⟨x.f0, x.f1⟩], s2, by simp; omega, by omega, by omega, Ev.bind hv (Ev.iteF hc (Ev.iteT hc2 (Ev.bind oe (Ev.bind xe (Ev.iteT (by simp only; omega) (Ev.now _))))))⟩
    · exact ⟨st, s', by omega, by omega, by omega, Ev.bind hv (Ev.iteF hc (Ev.iteF hc2 (Ev.bind oe (Ev.now _))))⟩
theorem drawHas_ev {l : List Int} (hb : Bytes l) : ∃ out a, out.length ≤ 66 ∧ Ev (fun k => spec_DrawSetHas.f k l) (out, a) := by
  obtain ⟨l', hb', hl', ho⟩ := open_eq hb
  obtain ⟨st, s, o1, o3, o4, oe⟩ := l12AnySet_ev hb' (by omega) (Int.le_refl 0) (by omega)
  have other : ∀ s', 0 ≤ s' → s' < 1000 → ∃ a, Ev (fun k => spec_DrawSetHas.j0 k st false l' s') (st, a) := by
    intro s' h0 h1
    obtain ⟨a, s2, _, _, _, _, ha⟩ := l12Any_ev hb' (by omega) h0 (show s' < 800000 by omega)
    refine ⟨a, Ev.succ ?_⟩
    simp only [spec_DrawSetHas.j0]
    exact Ev.iteF (by decide) (Ev.bind ha (Ev.now _))
  unfold spec_DrawSetHas.f
  by_cases hc : (st.length : Int) > 0
  · obtain ⟨v, v0, v1, hv⟩ := pick_ev hb' (by omega) 2 (by omega) (show 0 ≤ s by omega) (by omega)
    by_cases hv0 : v = 0
    · obtain ⟨u, u0, u1, hu⟩ := pick_ev hb' (by omega) (st.length : Int) (by omega) (show 0 ≤ s + 1 by omega) (by omega)
      obtain ⟨z, z0, z1, hz⟩ := pick_ev hb' (by omega) 3 (by omega) (show 0 ≤ s + 1 + 1 by omega) (by omega)
      refine ⟨st, wrap64 (wrap64 ((rd_T40 st u).f0 + z) - 1), o1, Ev.pre ho (Ev.bind oe (Ev.iteT hc (Ev.bind hv (Ev.succ ?_))))⟩
      simp only [spec_DrawSetHas.j0]
      exact Ev.iteT (by simp [hv0]) (Ev.bind hu (Ev.iteT u0 (Ev.iteT u1 (Ev.bind hz (Ev.now _)))))
    · obtain ⟨a, ha⟩ := other (s + 1) (by omega) (by omega)
      refine ⟨st, a, o1, Ev.pre ho (Ev.bind oe (Ev.iteT hc (Ev.bind hv ?_)))⟩
      rw [show (v == 0) = false from by simpa using hv0]
      exact ha
  · obtain ⟨a, ha⟩ := other s (by omega) (by omega)
    exact ⟨st, a, o1, Ev.pre ho (Ev.bind oe (Ev.iteF hc ha))⟩
end Go.Proofs.Ythkjkmgbdahggaa.Sets
