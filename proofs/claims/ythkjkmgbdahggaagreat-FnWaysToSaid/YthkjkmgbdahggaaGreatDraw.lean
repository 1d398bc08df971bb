/- What the draws answer: a pick is below its bound, and the reader goes on by one; addresses are addresses or a little beyond. -/
import Derived.Test.YthkjkmgbdahggaaGreatSetsC
import Derived.Test.YthkjkmgbdahggaaGreatPYx16
import Derived.Test.YthkjkmgbdahggaaGreatPYx5
namespace Go.Proofs.YthkjkmgbdahggaaGreat.Sets
open Go.RowKit Go.Proofs.YthkjkmgbdahggaaGreat.PY Go.Proofs.YthkjkmgbdahggaaGreatW.PrintWords Go.Proofs.YthkjkmgbdahggaaGreatW.PrintLast Go.Proofs.YthkjkmgbdahggaaGreatW.PrintMore Go.Proofs.YthkjkmgbdahggaaGreat.SetMath
set_option linter.unusedVariables false
set_option linter.unusedSimpArgs false
def Bytes (l : List Int) : Prop := ∀ x ∈ l, 0 ≤ x ∧ x < 256
theorem rd_byte {l : List Int} (h : Bytes l) {i : Int} (hi : i < l.length) (h0 : 0 ≤ i) : 0 ≤ rd l i ∧ rd l i < 256 := by
  unfold rd
  have : i.toNat < l.length := by omega
  rw [List.getD_eq_getElem?_getD, List.getElem?_eq_getElem this]
  exact h _ (List.getElem_mem this)
theorem xor_nonneg {x y : Int} (hx : 0 ≤ x) (hx2 : x < 4611686018427387904) (hy : 0 ≤ y) (hy2 : y < 4611686018427387904) : 0 ≤ Go.bits .xor .i64 x y := by
  obtain ⟨a, rfl⟩ : ∃ a : Nat, x = a := ⟨x.toNat, by omega⟩
  obtain ⟨b, rfl⟩ : ∃ b : Nat, y = b := ⟨y.toNat, by omega⟩
  have hz : ∀ c : Nat, c < 4611686018427387904 → (BitVec.ofInt 64 (c : Int)).toNat = c := by
    intro c hc
    rw [BitVec.ofInt_natCast, BitVec.toNat_ofNat, Nat.mod_eq_of_lt (by omega)]
  unfold Go.bits
  simp only
  show 0 ≤ IntKind.wrap .i64 ((BitVec.ofInt 64 (a : Int) ^^^ BitVec.ofInt 64 (b : Int)).toNat : Int)
  rw [BitVec.toNat_xor, hz a (by omega), hz b (by omega), i64_w]
  have := Nat.xor_lt_two_pow (x := a) (y := b) (n := 62) (by omega) (by omega)
  rw [w64 (by omega) (by omega)]
  omega
theorem tmod_range {a n : Int} (ha : 0 ≤ a) (hn : 0 < n) : 0 ≤ Int.tmod a n ∧ Int.tmod a n < n := by
  rw [Int.tmod_eq_emod_of_nonneg ha]
  exact ⟨Int.emod_nonneg _ (by omega), Int.emod_lt_of_pos _ hn⟩
theorem pick_j0 {l : List Int} (hb : Bytes l) (n : Int) (hn : 1 ≤ n) (s : Int) (h0 : 0 ≤ s) (h1 : s < 1000000) (b : Bool) (hbl : b = false → 0 < (l.length : Int)) (hlen : (l.length : Int) < 8796093022208) :
    ∃ v, 0 ≤ v ∧ v < n ∧ Ev (fun k => spec_l1Rd_pick.j0 k n b l (s + 1)) (v, s + 1) := by
  have e1 : wrap64 (s + 1 - 1) = s := by rw [w64 (by omega) (by omega)]; omega
  cases b with
  | true => exact ⟨0, by omega, by omega, Ev.succ (by simp only [spec_l1Rd_pick.j0, if_true]; exact Ev.now _)⟩
  | false =>
  have hpos := hbl rfl
  by_cases hs : s < l.length
  · obtain ⟨r1, r2⟩ := rd_byte hb hs h0
    obtain ⟨t1, t2⟩ := tmod_range r1 (show 0 < n by omega)
    refine ⟨_, t1, t2, Ev.succ ?_⟩
    simp only [spec_l1Rd_pick.j0, e1]
    refine Ev.iteF (by decide) (Ev.iteT hs (Ev.iteT h0 (Ev.iteF (by omega) ?_)))
    rw [w64 (x := rd l s) (by omega) (by omega)]
    exact Ev.now _
  · obtain ⟨m1, m2⟩ := tmod_range h0 hpos
    have e2 : wrap64 (wrap64 (s * 7) + 3) = s * 7 + 3 := by rw [w64 (x := s * 7) (by omega) (by omega), w64 (by omega) (by omega)]
    obtain ⟨m3, m4⟩ := tmod_range (show 0 ≤ s * 7 + 3 by omega) hpos
    obtain ⟨r1, r2⟩ := rd_byte hb m2 m1
    obtain ⟨r3, r4⟩ := rd_byte hb m4 m3
    have q0 : 0 ≤ Int.tdiv s l.length ∧ Int.tdiv s l.length ≤ s := ⟨Int.tdiv_nonneg h0 (by omega), Int.tdiv_le_self _ h0⟩
    generalize hx : rd l (Int.tmod s l.length) = x at *
    generalize hy : rd l (Int.tmod (s * 7 + 3) l.length) = y at *
    generalize hq : Int.tdiv s l.length = q at *
    have e3 : wrap64 (wrap64 (wrap64 (wrap64 (wrap64 x * 131) + wrap64 (wrap64 y * 1117)) + wrap64 (s * 29)) + wrap64 (wrap64 q * 53)) = x * 131 + y * 1117 + s * 29 + q * 53 := by
      rw [w64 (x := x) (by omega) (by omega), w64 (x := y) (by omega) (by omega), w64 (x := q) (by omega) (by omega), w64 (x := x * 131) (by omega) (by omega), w64 (x := y * 1117) (by omega) (by omega), w64 (x := s * 29) (by omega) (by omega), w64 (x := q * 53) (by omega) (by omega),
        w64 (x := x * 131 + y * 1117) (by omega) (by omega), w64 (x := x * 131 + y * 1117 + s * 29) (by omega) (by omega), w64 (by omega) (by omega)]
    have hd : 0 ≤ Int.tdiv (x * 131 + y * 1117 + s * 29 + q * 53) 64 ∧ Int.tdiv (x * 131 + y * 1117 + s * 29 + q * 53) 64 ≤ x * 131 + y * 1117 + s * 29 + q * 53 := ⟨Int.tdiv_nonneg (by omega) (by omega), Int.tdiv_le_self _ (by omega)⟩
    have hxor := xor_nonneg (x := x * 131 + y * 1117 + s * 29 + q * 53) (y := Int.tdiv (x * 131 + y * 1117 + s * 29 + q * 53) 64) (by omega) (by omega) (by omega) (by omega)
    obtain ⟨t1, t2⟩ := tmod_range hxor (show 0 < n by omega)
    refine ⟨_, t1, t2, Ev.succ ?_⟩
    simp only [spec_l1Rd_pick.j0, e1, e2, hx, hy, hq, e3]
    refine Ev.iteF (by decide) (Ev.iteF hs (Ev.iteF (by omega) (Ev.iteT m1 (Ev.iteT m2 (Ev.iteT m3 (Ev.iteT m4 (Ev.iteF (by omega) ?_)))))))
    rw [w64 (x := Int.tdiv _ 64) (by omega) (by omega)]
    exact Ev.now _
theorem pick_ev {l : List Int} (hb : Bytes l) (hlen : (l.length : Int) < 8796093022208) {s : Int} (n : Int) (hn : 1 ≤ n) (h0 : 0 ≤ s) (h1 : s < 1000000) : ∃ v, 0 ≤ v ∧ v < n ∧ Ev (fun k => spec_l1Rd_pick.f k l s n) (v, s + 1) := by
  have hne : ((l.length : Int) == 0) = false → 0 < (l.length : Int) := by
    intro h
    have : ¬ (l.length : Int) = 0 := by simpa using h
    omega
  obtain ⟨v, v1, v2, hv⟩ := pick_j0 hb n hn s h0 h1 ((l.length : Int) == 0) hne hlen
  refine ⟨v, v1, v2, ?_⟩
  unfold spec_l1Rd_pick.f
  rw [w64 (x := s + 1) (by omega) (by omega)]
  exact Ev.iteF (by omega) hv
theorem one_ev {l : List Int} (hb : Bytes l) (hlen : (l.length : Int) < 8796093022208) {s : Int} (c : List Int) (hc : 1 ≤ (c.length : Int)) (h0 : 0 ≤ s) (h1 : s < 1000000) : ∃ v ∈ c, Ev (fun k => spec_l1Rd_one.f k l s c) (v, s + 1) := by
  obtain ⟨v, v1, v2, hv⟩ := pick_ev hb hlen (c.length : Int) hc h0 h1
  have hv2 : v.toNat < c.length := by omega
  refine ⟨rd c v, ?_, ?_⟩
  · unfold rd; rw [List.getD_eq_getElem?_getD, List.getElem?_eq_getElem hv2]; exact List.getElem_mem hv2
  · unfold spec_l1Rd_one.f
    exact Ev.bind hv (Ev.iteT v1 (Ev.iteT v2 (Ev.now _)))
theorem l12Addr_ev {l : List Int} (hb : Bytes l) (hlen : (l.length : Int) < 8796093022208) {s : Int} (h0 : 0 ≤ s) (h1 : s < 900000) : ∃ v, 0 ≤ v ∧ v ≤ 4294967295 ∧ Ev (fun k => spec_l12Addr.f k l s) (v, s + 6) := by
  obtain ⟨a, a1, a2, ha⟩ := pick_ev hb hlen 256 (by omega) h0 (show s < 1000000 by omega)
  obtain ⟨b, b1, b2, hb'⟩ := pick_ev hb hlen 8 (by omega) (show 0 ≤ s + 1 by omega) (by omega)
  obtain ⟨c, c1, c2, hc⟩ := pick_ev hb hlen 16 (by omega) (show 0 ≤ s + 1 + 1 by omega) (by omega)
  obtain ⟨d, d1, d2, hd⟩ := pick_ev hb hlen 256 (by omega) (show 0 ≤ s + 1 + 1 + 1 by omega) (by omega)
  obtain ⟨e, e1, e2, he⟩ := pick_ev hb hlen 64 (by omega) (show 0 ≤ s + 1 + 1 + 1 + 1 by omega) (by omega)
  obtain ⟨v, hv, hve⟩ := one_ev hb hlen ([wrap64 (167772160 + a), wrap64 (167772160 + b), wrap64 (167772416 + c), wrap64 (3232235520 + d), 0, 4294967295, 184549375, wrap64 (2886729728 + (wrap64 (e * 256)))] : List Int) (by simp) (show 0 ≤ s + 1 + 1 + 1 + 1 + 1 by omega) (by omega)
  refine ⟨v, ?_, ?_, ?_⟩
  · rw [w64 (x := 167772160 + a) (by omega) (by omega), w64 (x := 167772160 + b) (by omega) (by omega), w64 (x := 167772416 + c) (by omega) (by omega), w64 (x := 3232235520 + d) (by omega) (by omega), w64 (x := e * 256) (by omega) (by omega), w64 (x := 2886729728 + e * 256) (by omega) (by omega)] at hv
    simp only [List.mem_cons, List.not_mem_nil, or_false] at hv
    omega
  · rw [w64 (x := 167772160 + a) (by omega) (by omega), w64 (x := 167772160 + b) (by omega) (by omega), w64 (x := 167772416 + c) (by omega) (by omega), w64 (x := 3232235520 + d) (by omega) (by omega), w64 (x := e * 256) (by omega) (by omega), w64 (x := 2886729728 + e * 256) (by omega) (by omega)] at hv
    simp only [List.mem_cons, List.not_mem_nil, or_false] at hv
    omega
  · unfold spec_l12Addr.f
    refine Ev.bind ha (Ev.bind hb' (Ev.bind hc (Ev.bind hd (Ev.bind he (Ev.bind hve ?_)))))
    simp only
    rw [show s + 1 + 1 + 1 + 1 + 1 + 1 = s + 6 from by omega]
    exact Ev.now _
theorem l12Any_ev {l : List Int} (hb : Bytes l) (hlen : (l.length : Int) < 8796093022208) {s : Int} (h0 : 0 ≤ s) (h1 : s < 800000) : ∃ v s', -1 ≤ v ∧ v ≤ 1099511627776 ∧ s ≤ s' ∧ s' ≤ s + 7 ∧ Ev (fun k => spec_l12AnyAddr.f k l s) (v, s') := by
  obtain ⟨a, a1, a2, ha⟩ := pick_ev hb hlen 16 (by omega) h0 (show s < 1000000 by omega)
  by_cases h : a = 0
  · obtain ⟨v, hv, hve⟩ := one_ev hb hlen ([(-1), 4294967296, 1099511627776] : List Int) (by simp) (show 0 ≤ s + 1 by omega) (by omega)
    simp only [List.mem_cons, List.not_mem_nil, or_false] at hv
    refine ⟨v, s + 1 + 1, by omega, by omega, by omega, by omega, ?_⟩
    unfold spec_l12AnyAddr.f
    exact Ev.bind ha (Ev.iteT h (Ev.bind hve (Ev.now _)))
  · obtain ⟨v, v1, v2, hve⟩ := l12Addr_ev hb hlen (show 0 ≤ s + 1 by omega) (by omega)
    refine ⟨v, s + 1 + 6, by omega, by omega, by omega, by omega, ?_⟩
    unfold spec_l12AnyAddr.f
    exact Ev.bind ha (Ev.iteF h (Ev.bind hve (Ev.now _)))
theorem open_eq {l : List Int} (hb : Bytes l) : ∃ l', Bytes l' ∧ l'.length ≤ 2000 ∧ spec_l1Open.f l = some (l', 0) := by
  unfold spec_l1Open.f
  by_cases h : (l.length : Int) > 2000
  · exact ⟨l.take 2000, fun x hx => hb x (List.mem_of_mem_take hx), by simp; omega, by rw [if_pos h, if_pos (by omega)]⟩
  · exact ⟨l, hb, by omega, by rw [if_neg h]⟩
end Go.Proofs.YthkjkmgbdahggaaGreat.Sets
