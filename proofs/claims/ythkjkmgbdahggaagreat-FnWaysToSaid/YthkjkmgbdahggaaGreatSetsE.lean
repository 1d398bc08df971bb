/- Sets of blocks on the law side, their size, and what the draws of blocks and sets answer. -/
import Derived.Test.YthkjkmgbdahggaaGreatSetsD
import Derived.Test.YthkjkmgbdahggaaGreatDraw
namespace Go.Proofs.YthkjkmgbdahggaaGreat.Sets
open Go.RowKit Go.Proofs.YthkjkmgbdahggaaGreat.PY Go.Proofs.YthkjkmgbdahggaaGreatW.PrintWords Go.Proofs.YthkjkmgbdahggaaGreatW.PrintLast Go.Proofs.YthkjkmgbdahggaaGreatW.PrintMore Go.Proofs.YthkjkmgbdahggaaGreat.SetMath
set_option linter.unusedVariables false
set_option linter.unusedSimpArgs false
theorem over_ev {a : Int} {n : Nat} (h0 : 0 ≤ a) (h1 : a ≤ 4294967295) (hn : n ≤ 32) : Ev (fun k => spec_l1Over.f k a (n : Int)) (a / sz n * sz n, (n : Int)) := by
  unfold spec_l1Over.f
  have hp := sz_pos n
  have hd := div_le hp h0
  refine Ev.bind (sizeS_ev hn) (Ev.iteF (by omega) (Ev.bind (sizeS_ev hn) ?_))
  have hq : 0 ≤ a / sz n ∧ a / sz n ≤ a := ⟨Int.ediv_nonneg h0 (by omega), Int.ediv_le_self _ h0⟩
  rw [Int.tdiv_eq_ediv_of_nonneg h0, w64 (x := a / sz n) (by omega) (by omega), w64 (by omega) (by omega)]
  exact Ev.now _
theorem over_ok {a : Int} {n : Nat} (h0 : 0 ≤ a) (h1 : a ≤ 4294967295) (hn : n ≤ 32) : okI ⟨a / sz n * sz n, (n : Int)⟩ := by
  have hd := div_le (sz_pos n) h0
  refine ⟨hd.1, by simp only; omega, by simp only; omega, by simp only; omega, ?_⟩
  exact ⟨a / sz n, by simp only [Int.toNat_natCast]; rw [Int.mul_comm]⟩
theorem l12Block_ev {l : List Int} (hb : Bytes l) (hlen : (l.length : Int) < 8796093022208) {s : Int} (h0 : 0 ≤ s) (h1 : s < 800000) : ∃ x : S32, okI x ∧ Ev (fun k => spec_l12Block.f k l s) (x.f0, x.f1, s + 7) := by
  obtain ⟨a, a0, a1, ha⟩ := l12Addr_ev hb hlen h0 (show s < 900000 by omega)
  obtain ⟨v, hv, hve⟩ := one_ev hb hlen ([32, 31, 30, 28, 24, 24, 25, 16, 8, 1, 0, 29] : List Int) (by simp) (show 0 ≤ s + 6 by omega) (by omega)
  simp only [List.mem_cons, List.not_mem_nil, or_false] at hv
  obtain ⟨n, rfl⟩ : ∃ n : Nat, v = n := ⟨v.toNat, by omega⟩
  have hn : n ≤ 32 := by omega
  refine ⟨⟨a / sz n * sz n, n⟩, over_ok a0 a1 hn, ?_⟩
  unfold spec_l12Block.f
  refine Ev.bind ha (Ev.bind hve (Ev.bind (over_ev a0 a1 hn) ?_))
  rw [show s + 7 = s + 6 + 1 from by omega]
  exact Ev.now _
theorem l12AnyBlock_ev {l : List Int} (hb : Bytes l) (hlen : (l.length : Int) < 8796093022208) {s : Int} (h0 : 0 ≤ s) (h1 : s < 500000) :
    ∃ x : S32, ∃ s', s ≤ s' ∧ s' ≤ s + 9 ∧ Ev (fun k => spec_l12AnyBlock.f k l s) (x.f0, x.f1, s') := by
  obtain ⟨x, hxo, hxe⟩ := l12Block_ev hb hlen h0 (by omega)
  obtain ⟨v, v0, v1, hv⟩ := pick_ev hb hlen 16 (by omega) (show 0 ≤ s + 7 by omega) (by omega)
  unfold spec_l12AnyBlock.f
  by_cases hc : v = 0
  · obtain ⟨u, hu, hue⟩ := one_ev hb hlen ([1, (-1), 256] : List Int) (by simp) (show 0 ≤ s + 7 + 1 by omega) (by omega)
    refine ⟨⟨wrap64 (x.f0 + u), x.f1⟩, s + 7 + 1 + 1, by omega, by omega, ?_⟩
    exact Ev.bind hxe (Ev.bind hv (Ev.iteT hc (Ev.bind hue (Ev.now _))))
  · by_cases hc2 : v = 1
    · obtain ⟨u, hu, hue⟩ := one_ev hb hlen ([(-1), 33, 0, 32] : List Int) (by simp) (show 0 ≤ s + 7 + 1 by omega) (by omega)
      refine ⟨⟨x.f0, u⟩, s + 7 + 1 + 1, by omega, by omega, ?_⟩
      exact Ev.bind hxe (Ev.bind hv (Ev.iteF hc (Ev.iteT hc2 (Ev.bind hue (Ev.now _)))))
    · refine ⟨x, s + 7 + 1, by omega, by omega, ?_⟩
      exact Ev.bind hxe (Ev.bind hv (Ev.iteF hc (Ev.iteF hc2 (Ev.now _))))
end Go.Proofs.YthkjkmgbdahggaaGreat.Sets
