/- The draws of route tables end: a table in order and one route more. On the condition that the bytes are bytes. -/
import Derived.Test.YthkjkmgbdahggaaGreatSetsE
import Derived.Test.YthkjkmgbdahggaaGreatWaysB
namespace Go.Proofs.YthkjkmgbdahggaaGreat.Sets
open Go.RowKit Go.Proofs.YthkjkmgbdahggaaGreat.PY Go.Proofs.YthkjkmgbdahggaaGreatW.PrintWords Go.Proofs.YthkjkmgbdahggaaGreatW.PrintLast Go.Proofs.YthkjkmgbdahggaaGreatW.PrintMore Go.Proofs.YthkjkmgbdahggaaGreat.SetMath
set_option linter.unusedVariables false
set_option linter.unusedSimpArgs false
theorem ordW_cons (u : Option S34) (w : S34) (l : List S34) : ordW u (w :: l) ↔ okW w ∧ (∀ v, u = some v → ltB v.f0 w.f0) ∧ ordW (some w) l := by
  cases u with
  | none => simp [ordW]
  | some v => simp [ordW]
def lastW : Option S34 → List S34 → Option S34
  | u, [] => u
  | _, x :: p => lastW (some x) p
theorem lastW_mem : ∀ (p : List S34) (u : Option S34) (v : S34), lastW u p = some v → v ∈ p ∨ (p = [] ∧ u = some v)
  | [], u, v, h => .inr ⟨rfl, h⟩
  | x :: p, u, v, h => by
    rcases lastW_mem p (some x) v h with q | ⟨_, q⟩
    · exact .inl (List.mem_cons_of_mem _ q)
    · injection q with q; exact .inl (by simp [q])
theorem ordW_append : ∀ (p : List S34) (u : Option S34) (r : List S34), ordW u (p ++ r) ↔ ordW u p ∧ ordW (lastW u p) r
  | [], u, r => by simp [ordW, lastW]
  | x :: p, u, r => by
    rw [List.cons_append, ordW_cons, ordW_cons, ordW_append p (some x) r]
    simp only [lastW]
    constructor
    · rintro ⟨a, b, c, d⟩; exact ⟨⟨a, b, c⟩, d⟩
    · rintro ⟨⟨a, b, c⟩, d⟩; exact ⟨a, b, c, d⟩
theorem ordW_same {v w : S34} (h : v.f0 = w.f0) {l : List S34} (ho : ordW (some w) l) : ordW (some v) l := by
  cases l with
  | nil => trivial
  | cons x l => rw [ordW_cons] at ho ⊢; exact ⟨ho.1, fun u hu => by injection hu with hu; subst hu; rw [h]; exact ho.2.1 w rfl, ho.2.2⟩
theorem ltB_tri {a b : S32} (h : ¬ ltB a b) (hne : ¬ (a.f0 = b.f0 ∧ a.f1 = b.f1)) : ltB b a := by unfold ltB at *; omega
def behind (n : Int) (l : List S34) : Nat := l.countP fun w => decide (2 * n ≤ w.f0.f0)
theorem at_l0 {b : S32} (hb : okI b) : ∀ (s p : List S34), (p ++ s).length < 1000000 → (∀ w ∈ s, okI w.f0) → (∀ w ∈ p, ltB w.f0 b) →
    ∃ q r, p ++ s = q ++ r ∧ (∀ w ∈ q, ltB w.f0 b) ∧ (∀ w r', r = w :: r' → ¬ ltB w.f0 b) ∧ ∃ t : Bool, (t = true ↔ ∃ w r', r = w :: r' ∧ w.f0.f0 = b.f0 ∧ w.f0.f1 = b.f1) ∧ Ev (fun k => spec_l3At.l0 k (p ++ s) (p.length : Int) b.f0 b.f1) ((q.length : Int), t) := by
  intro s
  induction s with
  | nil =>
    intro p hl _ hp
    refine ⟨p, [], by simp, hp, by simp, false, by simp, Ev.succ ?_⟩
    simp only [spec_l3At.l0]
    exact Ev.iteF (by simp) (Ev.now _)
  | cons x s ih =>
    intro p hl hs hp
    have e1 : wrap64 ((p.length : Int) + 1) = ((p ++ [x]).length : Int) := by simp at hl; rw [w64 (by omega) (by omega)]; simp
    obtain ⟨c, hc, hce⟩ := cmpS_eq (hs x (by simp)) hb
    by_cases h : ltB x.f0 b
    · obtain ⟨q, r, h1, h2, h3, t, h4, h5⟩ := ih (p ++ [x]) (by simpa using hl) (fun w hw => hs w (by simp [hw])) (fun w hw => by
        rcases List.mem_append.1 hw with e | e
        · exact hp w e
        · rw [List.mem_singleton] at e; rw [e]; exact h)
      refine ⟨q, r, by simpa using h1, h2, h3, t, h4, Ev.succ ?_⟩
      simp only [spec_l3At.l0]
      refine Ev.iteT (by simp; omega) (Ev.iteT (by omega) ?_)
      rw [rdW p x s, e1]
      refine Ev.pre hce (Ev.iteT (by have := mt hc.1 (fun h' => h' h); omega) ?_)
      simpa using h5
    · refine ⟨p, x :: s, rfl, hp, ?_, x.f0.f0 == b.f0 && (x.f0.f1 == b.f1), ?_, Ev.succ ?_⟩
      · intro w r' e; injection e with e _; rw [← e]; exact h
      · constructor
        · intro h'; simp at h'; exact ⟨x, s, rfl, h'⟩
        · rintro ⟨w, r', e, h'⟩; injection e with e _; subst e; simp [h']
      · simp only [spec_l3At.l0]
        refine Ev.iteT (by simp; omega) (Ev.iteT (by omega) ?_)
        rw [rdW p x s]
        exact Ev.pre hce (Ev.iteF (by have := hc.2 h; omega) (Ev.now _))
theorem put_ev {L : List S34} (hL : WaysOkP L) {b : S32} (hb : okI b) {h : Int} (h0 : 0 ≤ h) (h1 : h ≤ 99) :
    ∃ out t, WaysOkP out ∧ (L.length < 40 → ∀ n : Int, b.f0 = 2 * n → (out.length = L.length + 1 ∧ behind (n + 1) out ≤ behind n L) ∨ (out.length = L.length ∧ behind (n + 1) out + 1 ≤ behind n L)) ∧ Ev (fun k => spec_WaysPut.f k L b.f0 b.f1 h) (out, t) := by
  have h40 := hL.2
  have hx : ∀ w ∈ L, okI w.f0 := fun w hw => (ordW_ok L _ hL.1 w hw).1
  have hok := waysOkS_ev (l := L) (by omega) (b := true) (by simp [hL])
  obtain ⟨q, r, e, hq, hr, t, ht, hat⟩ := at_l0 hb L [] (by simp; omega) hx (by simp)
  have hat' : Ev (fun k => spec_l3At.f k L b.f0 b.f1) ((q.length : Int), t) := by unfold spec_l3At.f; simpa using hat
  have e : L = q ++ r := by simpa using e
  have hlen : L.length = q.length + r.length := by rw [e]; simp
  obtain ⟨o1, o2⟩ := (ordW_append q none r).1 (by rw [← e]; exact hL.1)
  have hbnd : ∀ v, lastW none q = some v → ltB v.f0 b := fun v hv => by
    rcases lastW_mem q none v hv with h' | ⟨_, h'⟩
    · exact hq v h'
    · cases h'
  have hcopy : spec_l3Copy.f L = some L := by unfold spec_l3Copy.f; simp only [Option.bind_some, List.length_nil]; rw [if_pos (by omega)]; rfl
  have start : ∀ res, Ev (fun k => spec_WaysPut.j0 k L L false b.f0 b.f1 h) res → Ev (fun k => spec_WaysPut.f k L b.f0 b.f1 h) res := fun res hres => by
    unfold spec_WaysPut.f
    refine Ev.bind hok (Ev.iteT rfl (Ev.pre hcopy (Ev.bind (blockOkS_ev b) (Ev.iteT (decide_eq_true hb) (Ev.pre (l1In_eq _ _ _) ?_)))))
    rw [decide_eq_true (show 0 ≤ h ∧ h ≤ 99 from ⟨h0, h1⟩)]
    exact hres
  have hnew : ∀ r' : List S34, ordW (some (⟨b, h⟩ : S34)) r' → ordW none (q ++ (⟨b, h⟩ : S34) :: r') := fun r' hr' =>
    (ordW_append q none _).2 ⟨o1, (ordW_cons _ _ _).2 ⟨⟨hb, h0, h1⟩, hbnd, hr'⟩⟩
  have mono : ∀ (n : Int) (l : List S34), behind (n + 1) l ≤ behind n l := fun n l => List.countP_mono_left (fun w _ hw => by simp at hw ⊢; omega)
  by_cases hth : t = true
  · obtain ⟨w, r', rfl, w0, w1⟩ := ht.1 hth
    have hwb : w.f0 = b := by cases hw : w.f0; cases b; rw [hw] at w0 w1; simp at w0 w1; rw [w0, w1]
    rw [ordW_cons] at o2
    refine ⟨q ++ (⟨b, h⟩ : S34) :: r', true, ⟨hnew r' (ordW_same (w := w) hwb.symm o2.2.2), by simp at hlen ⊢; omega⟩, fun _ n hn => .inr ⟨by rw [hlen]; simp, ?_⟩, start _ (Ev.succ ?_)⟩
    · have m1 := mono n q
      have m2 := mono n r'
      rw [e]
      unfold behind at *
      rw [List.countP_append, List.countP_append, List.countP_cons, List.countP_cons]
      rw [if_neg (by simp [hn]; omega), if_pos (by simp [hwb, hn])]
      omega
    · simp only [spec_WaysPut.j0]
      refine Ev.iteF (by decide) (Ev.bind hat' (Ev.iteT hth (Ev.iteT (by omega) (Ev.iteT (by rw [hlen]; simp; omega) ?_))))
      have es : L.set ((q.length : Int)).toNat (⟨⟨b.f0, b.f1⟩, h⟩ : S34) = q ++ (⟨b, h⟩ : S34) :: r' := by rw [e]; simp
      rw [es]; exact Ev.now _
  · have hno : ∀ w r', r = w :: r' → ¬ (w.f0.f0 = b.f0 ∧ w.f0.f1 = b.f1) := fun w r' e' h' => hth (ht.2 ⟨w, r', e', h'⟩)
    have hf : t = false := by simpa using hth
    subst hf
    have hrest : ordW (some (⟨b, h⟩ : S34)) r := by
      cases r with
      | nil => trivial
      | cons w r' =>
        rw [ordW_cons] at o2 ⊢
        exact ⟨o2.1, fun v hv => by injection hv with hv; subst hv; exact ltB_tri (hr w r' rfl) (hno w r' rfl), o2.2.2⟩
    by_cases hfull : (L.length : Int) ≥ 40
    · refine ⟨L, false, hL, fun hc => absurd hc (by omega), start _ (Ev.succ ?_)⟩
      simp only [spec_WaysPut.j0]
      exact Ev.iteF (by decide) (Ev.bind hat' (Ev.iteF (by simp) (Ev.iteT hfull (Ev.now _))))
    · refine ⟨q ++ (⟨b, h⟩ : S34) :: r, true, ⟨hnew r hrest, by simp; omega⟩, fun _ n hn => .inl ⟨by rw [hlen]; simp; omega, ?_⟩, start _ (Ev.succ ?_)⟩
      · have m1 := mono n q
        have m2 := mono n r
        rw [e]
        unfold behind at *
        rw [List.countP_append, List.countP_append, List.countP_cons, if_neg (by simp [hn]; omega)]
        omega
      · have et : L.take ((q.length : Int)).toNat = q := by rw [e]; simp
        have ed : L.drop ((q.length : Int)).toNat = r := by rw [e]; simp
        simp only [spec_WaysPut.j0]
        refine Ev.iteF (by decide) (Ev.bind hat' (Ev.iteF (by simp) (Ev.iteF hfull ?_)))
        simp only [Option.bind_some, et, ed]
        refine Ev.iteT (by omega) (Ev.iteT (by omega) (Ev.iteT (by simp; omega) (Ev.iteT (by simp; omega) (Ev.iteT (by simp; omega) ?_))))
        simpa using Ev.now (q ++ (⟨b, h⟩ : S34) :: r, true)
theorem many_l1 {l : List Int} {s : Int} : ∀ (d : Nat) (L : List S34) (n : Int), WaysOkP L → 0 ≤ n → n + d ≤ 2000 → 40 - L.length + behind n L ≤ d → ∃ out, WaysOkP out ∧ Ev (fun k => spec_l12Ways.l1 k L n l s) (out, s) := by
  intro d
  induction d with
  | zero =>
    intro L n hL h0 h1 hm
    refine ⟨L, hL, Ev.succ ?_⟩
    simp only [spec_l12Ways.l1]
    exact Ev.iteF (by omega) (Ev.now _)
  | succ d ih =>
    intro L n hL h0 h1 hm
    by_cases hlt : (L.length : Int) < 40
    · have hb : okI (⟨2 * n, 32⟩ : S32) := ⟨by simp only; omega, by simp only; omega, by simp, by simp, by simp [sz_32]⟩
      have hmod := tmod_range h0 (show (0 : Int) < 3 by omega)
      obtain ⟨out, t, o1, o2, o3⟩ := put_ev hL hb (h := Int.tmod n 3) (by omega) (by omega)
      have hstep := o2 (by omega) n rfl
      obtain ⟨out2, p1, p2⟩ := ih out (n + 1) o1 (by omega) (by omega) (by omega)
      refine ⟨out2, p1, Ev.succ ?_⟩
      simp only [spec_l12Ways.l1]
      rw [w64 (x := n * 2) (by omega) (by omega), w64 (x := n + 1) (by omega) (by omega), show n * 2 = 2 * n from by omega]
      exact Ev.iteT hlt (Ev.bind o3 p2)
    · refine ⟨L, hL, Ev.succ ?_⟩
      simp only [spec_l12Ways.l1]
      exact Ev.iteF hlt (Ev.now _)
theorem behind_le (n : Int) (l : List S34) : behind n l ≤ l.length := List.countP_le_length
theorem ways_l0 {l : List Int} (hb : Bytes l) (hlen : (l.length : Int) < 8796093022208) : ∀ (n : Nat) (L : List S34) (s : Int), WaysOkP L → n ≤ 10 → 0 ≤ s → s + 8 * n < 300000 →
    ∃ out s', WaysOkP out ∧ s ≤ s' ∧ s' ≤ s + 8 * n + 1 ∧ Ev (fun k => spec_l12Ways.l0 k L (n : Int) l s) (out, s') := by
  intro n
  induction n with
  | zero =>
    intro L s hL _ h0 h1
    obtain ⟨v, v0, v1, hv⟩ := pick_ev hb hlen 24 (by omega) h0 (show s < 1000000 by omega)
    by_cases hc : v = 0
    · have hbl := behind_le 0 L
      have h40 := hL.2
      obtain ⟨out, o1, o2⟩ := many_l1 (l := l) (s := s + 1) 100 L 0 hL (by omega) (by omega) (by omega)
      refine ⟨out, s + 1, o1, by omega, by omega, Ev.succ ?_⟩
      simp only [spec_l12Ways.l0]
      exact Ev.iteF (by omega) (Ev.bind hv (Ev.iteT hc o2))
    · refine ⟨L, s + 1, hL, by omega, by omega, Ev.succ ?_⟩
      simp only [spec_l12Ways.l0]
      exact Ev.iteF (by omega) (Ev.bind hv (Ev.iteF hc (Ev.now _)))
  | succ n ih =>
    intro L s hL hn h0 h1
    obtain ⟨x, hxo, hxe⟩ := l12Block_ev hb hlen h0 (show s < 800000 by omega)
    obtain ⟨v, v0, v1, hv⟩ := pick_ev hb hlen 3 (by omega) (show 0 ≤ s + 7 by omega) (by omega)
    obtain ⟨out, t, o1, _, o3⟩ := put_ev hL hxo (h := v) v0 (by omega)
    obtain ⟨out2, s', p1, p2, p3, p4⟩ := ih out (s + 7 + 1) o1 (by omega) (by omega) (by omega)
    refine ⟨out2, s', p1, by omega, by omega, Ev.succ ?_⟩
    simp only [spec_l12Ways.l0]
    refine Ev.iteT (by omega) (Ev.bind hxe (Ev.bind hv (Ev.bind o3 ?_)))
    simp only
    rw [w64 (x := ((n + 1 : Nat) : Int) - 1) (by omega) (by omega), show ((n + 1 : Nat) : Int) - 1 = (n : Int) from by omega]
    exact p4
theorem anyWays_ev {l : List Int} (hb : Bytes l) (hlen : (l.length : Int) < 8796093022208) : ∃ out s', out.length ≤ 41 ∧ 0 ≤ s' ∧ s' ≤ 1000 ∧ Ev (fun k => spec_l12AnyWays.f k l 0) (out, s') := by
  obtain ⟨v, v0, v1, hv⟩ := pick_ev hb hlen 8 (by omega) (Int.le_refl 0) (by omega)
  obtain ⟨n, rfl⟩ : ∃ n : Nat, v = n := ⟨v.toNat, by omega⟩
  obtain ⟨L, s, o1, o2, o3, o4⟩ := ways_l0 hb hlen n [] (0 + 1) ⟨trivial, by simp⟩ (by omega) (by omega) (by omega)
  have hw : Ev (fun k => spec_l12Ways.f k l 0) (L, s) := by unfold spec_l12Ways.f; exact Ev.bind hv o4
  have h40 := o1.2
  unfold spec_l12AnyWays.f
  by_cases h0 : (L.length : Int) = 0
  · exact ⟨L, s, by omega, by omega, by omega, Ev.bind hw (Ev.iteT h0 (Ev.now _))⟩
  · obtain ⟨u, u0, u1, hu⟩ := pick_ev hb hlen (L.length : Int) (by omega) (show 0 ≤ s by omega) (by omega)
    obtain ⟨z, z0, z1, hz⟩ := pick_ev hb hlen 20 (by omega) (show 0 ≤ s + 1 by omega) (by omega)
    by_cases c0 : z = 0
    · obtain ⟨y, hy, hye⟩ := one_ev hb hlen ([(-1), 99, 100] : List Int) (by simp) (show 0 ≤ s + 1 + 1 by omega) (by omega)
      exact ⟨_, _, by simp; omega, by omega, by omega, Ev.bind hw (Ev.iteF h0 (Ev.bind hu (Ev.bind hz (Ev.iteT c0 (Ev.bind hye (Ev.iteT u0 (Ev.iteT u1 (Ev.now _))))))))⟩
    · by_cases c1 : z = 1
      · obtain ⟨x, s2, x1, x2, xe⟩ := l12AnyBlock_ev hb hlen (show 0 ≤ s + 1 + 1 by omega) (by omega)
        exact ⟨_, _, by simp; omega, by simp only; omega, by simp only; omega, Ev.bind hw (Ev.iteF h0 (Ev.bind hu (Ev.bind hz (Ev.iteF c0 (Ev.iteT c1 (Ev.bind xe (Ev.iteT u0 (Ev.iteT u1 (Ev.now _)))))))))⟩
      · by_cases c2 : z = 2
        · exact ⟨_, _, by simp; omega, by omega, by omega, Ev.bind hw (Ev.iteF h0 (Ev.bind hu (Ev.bind hz (Ev.iteF c0 (Ev.iteF c1 (Ev.iteT c2 (Ev.iteT (by simp only; omega) (Ev.iteT (by simp only; omega) (Ev.now _)))))))))⟩
        · exact ⟨L, s + 1 + 1, by omega, by omega, by omega, Ev.bind hw (Ev.iteF h0 (Ev.bind hu (Ev.bind hz (Ev.iteF c0 (Ev.iteF c1 (Ev.iteF c2 (Ev.now _)))))))⟩
theorem drawWaysTo_ev {l : List Int} (hb : Bytes l) : ∃ out hop, out.length ≤ 41 ∧ Ev (fun k => spec_DrawWaysTo.f k l) (out, hop) := by
  obtain ⟨l', hb', hl', ho⟩ := open_eq hb
  obtain ⟨out, s, o1, o2, o3, o4⟩ := anyWays_ev hb' (by omega)
  obtain ⟨y, hy, hye⟩ := one_ev hb' (by omega) ([(-1), 0, 1, 2, 99, 100, (-2)] : List Int) (by simp) o2 (by omega)
  refine ⟨out, y, o1, ?_⟩
  unfold spec_DrawWaysTo.f
  exact Ev.pre ho (Ev.bind o4 (Ev.bind hye (Ev.now _)))
theorem drawWaysLead_ev {l : List Int} (hb : Bytes l) : ∃ out a, Ev (fun k => spec_DrawWaysLead.f k l) (out, a) := by
  obtain ⟨l', hb', hl', ho⟩ := open_eq hb
  obtain ⟨out, s, o1, o2, o3, o4⟩ := anyWays_ev hb' (by omega)
  have other : ∀ s', 0 ≤ s' → s' < 2000 → ∃ a, Ev (fun k => spec_DrawWaysLead.j0 k out false l' s') (out, a) := by
    intro s' h0 h1
    obtain ⟨a, s2, _, _, _, _, ha⟩ := l12Any_ev hb' (by omega) h0 (show s' < 800000 by omega)
    refine ⟨a, Ev.succ ?_⟩
    simp only [spec_DrawWaysLead.j0]
    exact Ev.iteF (by decide) (Ev.bind ha (Ev.now _))
  unfold spec_DrawWaysLead.f
  by_cases hc : (out.length : Int) > 0
  · obtain ⟨v, v0, v1, hv⟩ := pick_ev hb' (by omega) 2 (by omega) (show 0 ≤ s by omega) (by omega)
    by_cases hv0 : v = 0
    · obtain ⟨u, u0, u1, hu⟩ := pick_ev hb' (by omega) (out.length : Int) (by omega) (show 0 ≤ s + 1 by omega) (by omega)
      refine ⟨out, (rd_T34 out u).f0.f0, Ev.pre ho (Ev.bind o4 (Ev.iteT hc (Ev.bind hv (Ev.succ ?_))))⟩
      simp only [spec_DrawWaysLead.j0]
      exact Ev.iteT (by simp [hv0]) (Ev.bind hu (Ev.iteT u0 (Ev.iteT u1 (Ev.now _))))
    · obtain ⟨a, ha⟩ := other (s + 1) (by omega) (by omega)
      refine ⟨out, a, Ev.pre ho (Ev.bind o4 (Ev.iteT hc (Ev.bind hv ?_)))⟩
      rw [show (v == 0) = false from by simpa using hv0]
      exact ha
  · obtain ⟨a, ha⟩ := other s (by omega) (by omega)
    exact ⟨out, a, Ev.pre ho (Ev.bind o4 (Ev.iteF hc ha))⟩
end Go.Proofs.YthkjkmgbdahggaaGreat.Sets
