/- Shorthands for printed texts: the words' steps with their usual proofs as default arguments, each proved here once. No conditions. -/
import Derived.Test.YthkjkmgbdahggaaGreatProg
import Derived.Below
import Derived.Deep.Draws
import Derived.Deep.AppendLies
import Derived.Maps.AppendAt
import Derived.OwnWalk
import Derived.Laws.BytesArg
import Derived.Laws.MakeOwn
import Derived.Laws.OwnMore
import Derived.Deep.OwnRows
import Derived.Tactics
import Derived.Lib.ConvBytes
import Derived.Laws.Slices
import Derived.WalkKit
import Derived.KernelRfl
import Derived.RowKit3
import Derived.Deep.LoopGhost
import Derived.Deep.QuietTactic
import Derived.BigQuiet
import Derived.WideLaws
import Derived.Deep.DeepCutAuto
import Derived.Deep.CutBlock
import Derived.Deep.RegionHeld3
import Derived.Laws.Rows
import Derived.Lib.AppendStr
import Derived.ArgAppend
import Derived.Laws.IdiomCopy
import Derived.OrdersHeld
import Derived.Laws.BitsLemmas
import Derived.RowKit
import Derived.Test.YthkjkmgbdahggaaGreatSrtN
import Derived.Test.YthkjkmgbdahggaaGreatShelf
import Derived.Test.YthkjkmgbdahggaaGreatSrt
import Derived.Test.YthkjkmgbdahggaaGreatWWords
import Derived.Test.YthkjkmgbdahggaaGreatWLast
import Derived.Test.YthkjkmgbdahggaaGreatWTab
import Derived.Test.YthkjkmgbdahggaaGreatWApart
import Derived.Test.YthkjkmgbdahggaaGreatWFoot
import Derived.Test.YthkjkmgbdahggaaGreatWKept
import Derived.Test.YthkjkmgbdahggaaGreatWShare
import Derived.Test.YthkjkmgbdahggaaGreatWN
import Derived.Test.YthkjkmgbdahggaaGreatWAt
import Derived.Test.YthkjkmgbdahggaaGreatWEqStruct
import Derived.Test.YthkjkmgbdahggaaGreatWRepsOne
import Derived.Test.YthkjkmgbdahggaaGreatWNEv
import Derived.Test.YthkjkmgbdahggaaGreatWMore
namespace Go.Proofs.YthkjkmgbdahggaaGreat.Sq
open Go.RowKit Go.Proofs.YthkjkmgbdahggaaGreatW.PrintWords Go.Proofs.YthkjkmgbdahggaaGreatW.PrintLast Go.Proofs.YthkjkmgbdahggaaGreatW.PrintMore
set_option linter.unusedVariables false
def bm (n m : Nat) : Array Bool := ((List.range n).map fun i => m.testBit i).toArray
theorem da {p : Prop} [Decidable p] (h : decide p = true := by first | (with_reducible assumption) | assumption) : p := of_decide_eq_true h
theorem wi {A B C : Prop} (f : A → B → C) (h0 : A := by exact of_decide_eq_true (by first | (with_reducible assumption) | assumption)) (h1 : B := by exact of_decide_eq_true (by first | (with_reducible assumption) | assumption)) : C ∧ A = True ∧ B = True := ⟨f h0 h1, eq_true h0, eq_true h1⟩
theorem gd {α : Type} {p : Prop} [Decidable p] {a : Option α} {r : α} (h : (if p then a else none) = some r) : decide p = true ∧ a = some r := by
  by_cases c : p
  · rw [if_pos c] at h; exact ⟨decide_eq_true c, h⟩
  · rw [if_neg c] at h; cases h
theorem gp {α : Type} {p : Prop} [Decidable p] {a : Option α} {r : α} (h : (if p then a else none) = some r) : p ∧ a = some r := by
  by_cases c : p
  · rw [if_pos c] at h; exact ⟨c, h⟩
  · rw [if_neg c] at h; cases h
theorem gn {α : Type} {p : Prop} [Decidable p] {a : Option α} {r : α} (h : (if p then none else a) = some r) : ¬ p ∧ a = some r := by
  by_cases c : p
  · rw [if_pos c] at h; cases h
  · rw [if_neg c] at h; exact ⟨c, h⟩
theorem ic {α : Type} {p : Prop} [Decidable p] {a b : Option α} {r : Option α} (h : (if p then a else b) = r) : (decide p = true ∧ a = r) ∨ (decide p = false ∧ b = r) := by
  by_cases c : p
  · rw [if_pos c] at h; exact .inl ⟨decide_eq_true c, h⟩
  · rw [if_neg c] at h; exact .inr ⟨decide_eq_false c, h⟩
theorem bd {α β : Type} {x : Option α} {f : α → Option β} {r : β} (h : x.bind f = some r) : ∃ t, Aside0 (x = some t) ∧ f t = some r := by
  obtain ⟨t, h1, h2⟩ := Option.bind_eq_some_iff.mp h
  exact ⟨t, ⟨h1⟩, h2⟩
section
variable {P : Program} {ops : Array Oper} {Q : Exit → Act → World → Prop} {md : Region.Mode} {S : World → Prop} {ds : List Nat}
theorem pu (i N : Nat) {oi : Oper} {v : Value} {fuel : Nat} {l : Array Bool} {a a' : Act} {w : World} (l' : Array Bool) (h : wpAnyLast P md ops Q S ds fuel l' a' w)
    (hi : ops[i]? = some oi := by exact rfl) (hN : oi.dst = some N := by exact rfl) (hc : anyB md ops l l' i = true := by first | exact any_of HT_.out (by kernel_rfl) | kernel_rfl)
    (hQ : ∀ c a w, Q (.panic c) (a.put oi.dst v) w → Q (.panic c) a w := by exact fun _ _ _ h => h) (hw : Region.wanted oi (yielded ops a.tmps) = true := by rfl)
    (hv : ∀ w, (execOp a.eval oi).run P w = .ok (.value v) w := by intro w'; go_simp; with_reducible rfl)
    (ha : a.put (some N) v = a' := by simp only [Act.put, List.setIfInBounds_toArray, List.set_cons_zero, List.set_cons_succ, i64_w, i32_w]; rfl) : wpAnyLast P md ops Q S ds (fuel + 1) l a w :=
  pure_ l' hi hN hc hQ (.inl ⟨hw, hv⟩) ha h
theorem po (i N : Nat) {oi : Oper} {fuel : Nat} {l : Array Bool} {a a' : Act} {w : World} (l' : Array Bool) (h : wpAnyLast P md ops Q S ds fuel l' a' w)
    (hi : ops[i]? = some oi := by exact rfl) (hN : oi.dst = some N := by exact rfl) (hc : anyB md ops l l' i = true := by first | exact any_of HT_.out (by kernel_rfl) | kernel_rfl)
    (hQ : ∀ c a w, Q (.panic c) (a.put oi.dst undef) w → Q (.panic c) a w := by exact fun _ _ _ h => h) (hw : Region.wanted oi (yielded ops a.tmps) = false := by rfl)
    (ha : a.put (some N) undef = a' := by simp only [Act.put, List.setIfInBounds_toArray, List.set_cons_zero, List.set_cons_succ, i64_w, i32_w]; rfl) : wpAnyLast P md ops Q S ds (fuel + 1) l a w :=
  pure_ l' hi hN hc hQ (.inr ⟨hw, rfl⟩) ha h
theorem tk (i N : Nat) {oi : Oper} {v : Value} {fuel : Nat} {l : Array Bool} {a a' : Act} {w : World} (l' : Array Bool) (h : wpAnyLast P md ops Q S ds fuel l' a' w)
    (hi : ops[i]? = some oi := by exact rfl) (hN : oi.dst = some N := by exact rfl) (hc : takeB md ops ds l l' i = true := by first | exact take_ofW HT_.out HW_.out (by kernel_rfl) | kernel_rfl)
    (hQ : ∀ c a w, Q (.panic c) (a.put oi.dst v) w → Q (.panic c) a w := by exact fun _ _ _ h => h) (hw : Region.wanted oi (yielded ops a.tmps) = true := by rfl)
    (hv : ∀ w, S w → (execOp a.eval oi).run P w = .ok (.value v) w := by intro w' hs_; (try obtain ⟨s0, hs_⟩ := hs_); (try obtain ⟨s1, hs_⟩ := hs_); (try obtain ⟨s2, hs_⟩ := hs_); (try obtain ⟨s3, hs_⟩ := hs_); (try obtain ⟨s4, hs_⟩ := hs_); (try obtain ⟨s5, hs_⟩ := hs_); (try obtain ⟨s6, hs_⟩ := hs_); (try obtain ⟨s7, hs_⟩ := hs_); (try obtain ⟨s8, hs_⟩ := hs_); (try obtain ⟨s9, hs_⟩ := hs_); go_simp; with_reducible rfl)
    (hS : S w := by exact hHeld)
    (ha : a.put (some N) v = a' := by simp only [Act.put, List.setIfInBounds_toArray, List.set_cons_zero, List.set_cons_succ, i64_w, i32_w]; rfl) : wpAnyLast P md ops Q S ds (fuel + 1) l a w :=
  take_ l' hi hN hc hQ (.inl ⟨hw, hv⟩) hS ha h
theorem nm (N : Nat) {fuel : Nat} {l : Array Bool} {a a' : Act} {v : Value} {w : World} (h : wpAnyLast P md ops Q S ds fuel l a' w) (ha : Act.put a (some N) v = a' := by simp only [Act.put, List.setIfInBounds_toArray, List.set_cons_zero, List.set_cons_succ, i64_w, i32_w]; rfl) : wpAnyLast P md ops Q S ds fuel l (Act.put a (some N) v) w :=
  norm_ ha h
theorem on (i : Nat) (N : Option Tmp) {oi : Oper} {fuel : Nat} {l : Array Bool} {a : Act} {w : World} (l' : Array Bool)
    (h : ∀ K : Act → World → Prop, Shut (∀ a' w', S w' → (S w' → wpAnyLast P md ops Q S ds fuel l' a' w') → K a' w') → if Region.wanted oi (yielded ops a.tmps) = true then Oper.wp P oi a w K Q else K (a.put N undef) w)
    (hi : ops[i]? = some oi := by exact rfl) (hN : oi.dst = N := by exact rfl) (hc : readyB md ops l l' i = true := by first | exact one_of HT_.out (by kernel_rfl) | kernel_rfl) (hd : i ∉ ds := by decide) : wpAnyLast P md ops Q S ds (fuel + 1) l a w :=
  one_ l' hi hN hc hd h
theorem gs {oi : Oper} {N : Option Tmp} {a : Act} {w : World} {K : Act → World → Prop} {f : FuncId} {fn : Func} {as0 : Array Operand} {ts : Array TypeId} (hf : P.funcs[f]? = some fn) (args : Array Value)
    (h : Calls P f args w fun e w' => ∃ v, e = .returned v ∧ K (a.put N v) w')
    (hop : oi.op = .call { callee := .value (.func f), args := as0, argTypes := ts } := by exact rfl) (hname : (fn.name == "runtime.NumGoroutine") = false := by kernel_rfl) (hb : fn.body.isSome = true := by exact rfl)
    (hw : Region.wanted oi (yielded ops a.tmps) = true := by rfl) (hN : oi.dst = N := by exact rfl) (hargs : as0.map a.eval = args := by (try simp only [List.map_toArray, List.map_cons, List.map_nil]); first | done | rfl | (simp only [List.length_drop, List.length_take]; rfl)) :
    if Region.wanted oi (yielded ops a.tmps) = true then Oper.wp P oi a w K Q else K (a.put N undef) w :=
  goes_ hf hname hb args hw hN hop hargs h
end
section
variable {P : Program} {ops : Array Oper} {rest : List Oper} {o oi : Oper} {a : Act} {Q : Exit → Act → World → Prop} {Kc : Act → World → Prop} {W w : World}
theorem gc (N : Option Tmp) {f : FuncId} {fn : Func} (hf : P.funcs[f]? = some fn) {as0 : Array Operand} {ts : Array TypeId} (args : Array Value)
    (h : Calls P f args w fun e w' => ∃ v, e = .returned v ∧ wpList P ops Q rest (a.put N v) w')
    (hop : oi.op = .call { callee := .value (.func f), args := as0, argTypes := ts } := by with_reducible rfl) (hd : oi.dst = N := by exact rfl) (hg : oi.guard = none := by exact rfl) (hname : (fn.name == "runtime.NumGoroutine") = false := by kernel_rfl) (hb : fn.body.isSome = true := by exact rfl)
    (hargs : as0.map a.eval = args := by (try simp only [List.map_toArray, List.map_cons, List.map_nil]); first | done | rfl | (simp only [List.length_drop, List.length_take]; rfl)) : wpList P ops Q (oi :: rest) a w :=
  goesL_ N hd hg hf hname hb args hop hargs h
theorem be (N : Tmp) (cs : Array Value) (t : TypeId) (h : ∀ g, g = W.heap.size → ∀ w1, w1.heap[g]? = some (.cells cs t (0, 0)) → Below W.heap.size W w1 → wpList P ops Q rest (a.put o.dst (.pointer (some ⟨g, 0, none⟩))) w1)
    (hd : o.dst = some N := by with_reducible rfl) (hgd : o.guard = none := by exact rfl)
    (hrun : (execOp a.eval o).run P W = .ok (.value (.pointer (some ⟨W.heap.size, 0, none⟩))) (W.alloc (.cells cs t (0, 0))) := by first | (go_simp; done) | (go_simp; rfl)) : wpList P ops Q (o :: rest) a W :=
  box_event hgd hd hrun h
theorem gt (N : Tmp) (h : wpList P ops Q (o :: rest) a W) (hd : o.dst = some N := by with_reducible rfl) : wpList P ops Q (o :: rest) a W := h
theorem rl {α : Type} (d : Kd α) (e : TypeId) (N : Tmp) (xs : List α) (inner : List Value) (hrep : Reps (d.M W W.heap.size (fun _ => True)) d.sz xs inner)
    (h : ∀ v1 w1, d.R e w1 W.heap.size (fun _ => True) v1 xs → Below W.heap.size W w1 → W.grownBy w1 none → (∃ b, v1.ownBlock = some b ∧ W.heap.size ≤ b) → wpList P ops Q rest (a.put o.dst v1) w1)
    (hd : o.dst = some N := by with_reducible rfl) (hgd : o.guard = none := by exact rfl)
    (hrun : (execOp a.eval o).run P W = .ok (.value (.slice (some ⟨W.heap.size, 0, none⟩) xs.length xs.length)) (W.alloc (.cells inner.toArray e)) := by first | (go_simp; done) | (go_simp; rfl)) (hm : xs.length ≤ 9223372036854775807 := by simp) : wpList P ops Q (o :: rest) a W :=
  Kd.R_lit d _ e hgd hd hrun hrep (fun _ hk => hk) trivial (Below.refl _ _) (Nat.le_refl _) hm h
theorem rls {α : Type} (d : Kd α) (e : TypeId) (N : Tmp) (xs : List α) (inner : List Value) (hrep : Reps (d.M W W.heap.size (fun _ => True)) d.sz xs inner)
    (h : ∀ v1 w1, d.R e w1 W.heap.size (fun _ => True) v1 xs → Below W.heap.size W w1 → W.grownBy w1 none → (∃ b, v1.ownBlock = some b ∧ W.heap.size ≤ b) → Kc (a.put o.dst v1) w1)
    (hd : o.dst = some N := by exact rfl) (hw : Region.wanted o (yielded ops a.tmps) = true := by exact rfl)
    (hrun : (execOp a.eval o).run P W = .ok (.value (.slice (some ⟨W.heap.size, 0, none⟩) xs.length xs.length)) (W.alloc (.cells inner.toArray e)) := by first | (go_simp; done) | (go_simp; rfl)) (hm : xs.length ≤ 9223372036854775807 := by simp) : if Region.wanted o (yielded ops a.tmps) = true then Oper.wp P o a W Kc Q else Kc (a.put o.dst undef) W :=
  Kd.R_lit_step d _ e hw hd hrun hrep (fun _ hk => hk) trivial (Below.refl _ _) (Nat.le_refl _) hm h
theorem ro {base : Nat} {okp : Nat → Prop} {x : Int} {xs : List Int} {inner : List Value} (h : Reps ((Kd.int .i64).M W base okp) (Kd.int .i64).sz xs inner) : Reps ((Kd.int .i64).M W base okp) (Kd.int .i64).sz (x :: xs) (.int .i64 x :: inner) :=
  Reps.one (show Kd.M (Kd.int .i64) _ _ _ x [.int .i64 x] from rfl) h
end
theorem zz22 {a1 p : Prop} (x1 : Aside0 a1) (h : a1 → p := by intro x1; (with_reducible repeat (first | apply Kd.R_alloc | apply Kd.R_drewN | apply Kd.R_drew)); exact x1) : p := h x1.out
theorem zz3 {p : Prop} (h : p := by repeat (first | (with_reducible first | exact HB.out | apply below_alloc | apply pw_below_drewN | apply below_drew1) | exact HB.out)) : p := h
theorem zz6 {a1 p : Prop} (x1 : Aside0 a1) (h : a1 → p := by intro x1; repeat (first | (with_reducible first | exact HB.out | apply below_alloc | apply pw_below_drewN | apply below_drew1 | refine below_set ?_ x1) | exact HB.out)) : p := h x1.out
theorem zz2 {p : Prop} (h : p := by first | (with_reducible assumption) | assumption) : p := h
theorem zz5 {a1 p : Prop} (x1 : Aside0 a1) (h : a1 → p := by intro x1; (with_reducible repeat (first | refine blk_drewN ?_ _ | refine blk_drew ?_ | refine blk_alloc ?_ _)); exact x1) : p := h x1.out
theorem zz8 {p : Prop} (h : p := by first | rfl | (simp; done) | (simp [*]; done)) : p := h
theorem zz10 {a1 p : Prop} (x1 : Aside0 a1) (h : a1 → p := by intro x1; repeat (first | (with_reducible first | exact x1 | apply IsS64.alloc | apply IsS64.drewN | apply IsS64.drew | apply IsS64.set_1) | exact x1)) : p := h x1.out
theorem zz16 {p : Prop} (h : p := by rw [hg]; exact (below_size (by repeat (first | (with_reducible first | exact HB.out | apply below_alloc | apply pw_below_drewN | apply below_drew1) | exact HB.out)))) : p := h
theorem zz13 {p : Prop} (h : p := by first | rfl | (simp [errW_none, errW_some] <;> rfl) | (simp [*, errW_none, errW_some] <;> rfl)) : p := h
theorem zz11 {p : Prop} (h : p := by repeat (first | (with_reducible first | exact HK.out | apply KeepBut.set_ | apply keep_drewN | apply keep_drew | apply keep_alloc) | exact HK.out)) : p := h
theorem zz15 {a1 p : Prop} (x1 : Aside0 a1) (h : a1 → p := by intro x1; have := x1; omega) : p := h x1.out
theorem zz12 {a1 p : Prop} (x1 : Aside0 a1) (h : a1 → p := by intro x1; repeat (first | (with_reducible first | exact HB.out | apply below_alloc | apply pw_below_drewN | apply below_drew1 | refine below_set ?_ (IsS64.ge x1)) | exact HB.out)) : p := h x1.out
theorem zz48 {p : Prop} (h : p := by repeat (first | (with_reducible first | exact HK.out | apply Kept.alloc | apply Kept.drewN | apply Kept.drew) | exact HK.out)) : p := h
theorem zz31 {a1 p : Prop} (x1 : Aside0 a1) (h : a1 → p := by intro x1; repeat (first | exact (Kd.R_reads' x1).2.2 | (with_reducible refine Kd.C_alloc ?_ _) | (with_reducible refine Kd.C_drewN ?_ _) | (with_reducible refine Kd.C_drew ?_))) : p := h x1.out
theorem zz33 {a1 p : Prop} (x1 : Aside0 a1) (h : a1 → p := by intro x1; exact (Kd.R_reads' x1).2.1) : p := h x1.out
theorem zz20 {a1 p : Prop} (x1 : Aside0 a1) (h : a1 → p := by intro x1; repeat (first | exact (Kd.C_below x1 HB.out) | (with_reducible refine Kd.C_alloc ?_ _) | (with_reducible refine Kd.C_drewN ?_ _) | (with_reducible refine Kd.C_drew ?_))) : p := h x1.out
theorem zz14 {p : Prop} (h : p := by repeat (first | exact Drawn0.refl _ | apply Drawn0.step)) : p := h
theorem zz58 {a1 p : Prop} (x1 : Aside0 a1) (h : a1 → p := by intro x1; repeat (first | (with_reducible exact x1) | (with_reducible refine Kd.C_alloc ?_ _) | (with_reducible refine Kd.C_drewN ?_ _) | (with_reducible refine Kd.C_drew ?_) | exact x1)) : p := h x1.out
theorem zz23 {p : Prop} (h : p := by exact (below_size (by repeat (first | (with_reducible first | exact HB.out | apply below_alloc | apply pw_below_drewN | apply below_drew1) | exact HB.out)))) : p := h
theorem zz21 {p : Prop} (h : p := by exact (fun _ _ => trivial)) : p := h
theorem zz36 {a1 a2 p : Prop} (x1 : Aside0 a1) (x2 : Aside0 a2) (h : a1 → a2 → p := by intro x1 x2; repeat (first | (with_reducible first | exact x1 | apply IsS64.alloc | apply IsS64.drewN | apply IsS64.drew | apply IsS64.set_1 | refine IsS64.far ?_ x2 _) | exact x1)) : p := h x1.out x2.out
theorem zz38 {a1 p : Prop} (x1 : Aside0 a1) (h : a1 → p := by intro x1; repeat (first | (with_reducible first | exact HK.out | apply KeepBut.set_ | apply keep_drewN | apply keep_drew | apply keep_alloc | refine keep_far ?_ x1 _) | exact HK.out)) : p := h x1.out
theorem zz27 {a1 p : Prop} (x1 : Aside0 a1) (h : a1 → p := by intro x1; exact (below_size (by repeat (first | (with_reducible first | exact HB.out | apply below_alloc | apply pw_below_drewN | apply below_drew1 | refine below_set ?_ x1) | exact HB.out)))) : p := h x1.out
theorem zz19 {p : Prop} (h : p := by exact (Reps.none _ _)) : p := h
theorem zz25 {a1 p : Prop} (x1 : Aside0 a1) (h : a1 → p := by intro x1; (with_reducible repeat (first | apply Kd.R_alloc | apply Kd.R_drewN | apply Kd.R_drew)); exact Kd.R_mono x1 (fun _ hk => trivial)) : p := h x1.out
theorem zz17 {a1 p : Prop} (x1 : Aside0 a1) (h : a1 → p := by intro x1; rw [hg]; exact (below_size (by repeat (first | (with_reducible first | exact HB.out | apply below_alloc | apply pw_below_drewN | apply below_drew1 | refine below_set ?_ x1) | exact HB.out)))) : p := h x1.out
theorem zz26 {p : Prop} (h : p := by first | (go_simp; done) | (go_simp; rfl)) : p := h
theorem zz52 {a1 p : Prop} (x1 : Aside0 a1) (h : a1 → p := by intro x1; (with_reducible repeat (first | apply Kd.V_alloc | apply Kd.V_drewN | apply Kd.V_drew)); exact x1) : p := h x1.out
theorem zz18 {a1 a2 p : Prop} (x1 : Aside0 a1) (x2 : Aside0 a2) (h : a1 → a2 → p := by intro x1 x2; repeat (first | (with_reducible first | exact HB.out | apply below_alloc | apply pw_below_drewN | apply below_drew1 | refine below_set ?_ x1 | refine below_set ?_ x2) | exact HB.out)) : p := h x1.out x2.out
theorem zz39 {a1 a2 p : Prop} (x1 : Aside0 a1) (x2 : Aside0 a2) (h : a1 → a2 → p := by intro x1 x2; have := x1; have := x2; omega) : p := h x1.out x2.out
theorem zz9 {p : Prop} (h : p := by first | omega | exact Nat.le_refl _) : p := h
theorem zz41 {a1 a2 a3 p : Prop} (x1 : Aside0 a1) (x2 : Aside0 a2) (x3 : Aside0 a3) (h : a1 → a2 → a3 → p := by intro x1 x2 x3; repeat (first | (with_reducible first | exact x1 | apply IsS64.alloc | apply IsS64.drewN | apply IsS64.drew | apply IsS64.set_1 | refine IsS64.far ?_ x2 _ | refine IsS64.far ?_ x3 _) | exact x1)) : p := h x1.out x2.out x3.out
theorem zz44 {a1 a2 p : Prop} (x1 : Aside0 a1) (x2 : Aside0 a2) (h : a1 → a2 → p := by intro x1 x2; repeat (first | (with_reducible first | exact HK.out | apply KeepBut.set_ | apply keep_drewN | apply keep_drew | apply keep_alloc | refine keep_far ?_ x1 _ | refine keep_far ?_ x2 _) | exact HK.out)) : p := h x1.out x2.out
theorem zz37 {a1 a2 p : Prop} (x1 : Aside0 a1) (x2 : Aside0 a2) (h : a1 → a2 → p := by intro x1 x2; repeat (first | (with_reducible first | exact HB.out | apply below_alloc | apply pw_below_drewN | apply below_drew1 | refine below_set ?_ (IsS64.ge x1) | refine below_set ?_ x2) | exact HB.out)) : p := h x1.out x2.out
theorem zz49 {a1 p : Prop} (x1 : Aside0 a1) (h : a1 → p := by intro x1; repeat (first | exact x1 | (with_reducible refine Kd.C_alloc ?_ _) | (with_reducible refine Kd.C_drewN ?_ _) | (with_reducible refine Kd.C_drew ?_))) : p := h x1.out
theorem zz42 {a1 a2 a3 p : Prop} (x1 : Aside0 a1) (x2 : Aside0 a2) (x3 : Aside0 a3) (h : a1 → a2 → a3 → p := by intro x1 x2 x3; repeat (first | (with_reducible first | exact HB.out | apply below_alloc | apply pw_below_drewN | apply below_drew1 | refine below_set ?_ (IsS64.ge x1) | refine below_set ?_ x2 | refine below_set ?_ x3) | exact HB.out)) : p := h x1.out x2.out x3.out
theorem zz45 {p : Prop} (h : p := by exact (ro (Reps.none _ _))) : p := h
theorem zz61 {a1 p : Prop} (x1 : Aside0 a1) (h : a1 → p := by intro x1; (with_reducible repeat (first | apply Kd.R_alloc | apply Kd.R_drewN | apply Kd.R_drew)); exact Kd.R_mono x1 (fun _ hk => ⟨hk.1.1, ⟨hk.2, hk.1.2⟩⟩)) : p := h x1.out
theorem zz68 {a1 p : Prop} (x1 : Aside0 a1) (h : a1 → p := by intro x1; (with_reducible repeat (first | apply Kd.R_alloc | apply Kd.R_drewN | apply Kd.R_drew)); exact Kd.R_mono x1 (fun _ hk => ⟨⟨hk.1, hk.2.2⟩, hk.2.1⟩)) : p := h x1.out
theorem zz24 {a1 p : Prop} (x1 : Aside0 a1) (h : a1 → p := by intro x1; (with_reducible repeat (first | apply Kd.R_alloc | apply Kd.R_drewN | apply Kd.R_drew)); exact Kd.R_mono x1 (fun _ hk => hk.2)) : p := h x1.out
theorem zz28 {p : Prop} (h : p := by simp only [putAll, Act.put, List.setIfInBounds_toArray, List.set_cons_zero, List.set_cons_succ]) : p := h
theorem zz35 {p : Prop} (h : p := by rw [hg]; exact (keep_size (w := w) (g := g) (row := none) (by repeat (first | (with_reducible first | exact HK.out | apply KeepBut.set_ | apply keep_drewN | apply keep_drew | apply keep_alloc) | exact HK.out)))) : p := h
theorem zz46 {p : Prop} (h : p := by first | exact Kd.R_nil _ _ _ _ _ | exact Kd.N_nil _ _ _ _ _ | exact Kd.V_nil _ _ _ _ _ | exact Kd.Q_nil _ _ _ _ _ | exact Kd.S_nil _ _ _ _ _) : p := h
theorem zz59 {a1 p : Prop} (x1 : Aside0 a1) (h : a1 → p := by intro x1; repeat (first | exact (by repeat (first | (with_reducible exact x1) | (with_reducible refine Kd.C_alloc ?_ _) | (with_reducible refine Kd.C_drewN ?_ _) | (with_reducible refine Kd.C_drew ?_) | exact x1)) | (with_reducible refine Kd.C_alloc ?_ _) | (with_reducible refine Kd.C_drewN ?_ _) | (with_reducible refine Kd.C_drew ?_))) : p := h x1.out
theorem zz66 {a1 p : Prop} (x1 : Aside0 a1) (h : a1 → p := by intro x1; (with_reducible repeat (first | apply Kd.R_alloc | apply Kd.R_drewN | apply Kd.R_drew)); exact Kd.R_mono x1 (fun _ hk => ⟨⟨hk.1.1, hk.2⟩, hk.1.2⟩)) : p := h x1.out
theorem zz34 {a1 a2 p : Prop} (x1 : Aside0 a1) (x2 : Aside0 a2) (h : a1 → a2 → p := by intro x1 x2; exact far_slice (IsS64.own_ne x1 x2 (by decide))) : p := h x1.out x2.out
theorem zz40 {a1 p : Prop} (x1 : Aside0 a1) (h : a1 → p := by intro x1; rw [hg]; exact (keep_size (w := w) (g := g) (row := none) (by repeat (first | (with_reducible first | exact HK.out | apply KeepBut.set_ | apply keep_drewN | apply keep_drew | apply keep_alloc | refine keep_far ?_ x1 _) | exact HK.out)))) : p := h x1.out
theorem zz51 {a1 p : Prop} (x1 : Aside0 a1) (h : a1 → p := by intro x1; repeat (first | exact (Kd.V_reads' x1).2.2 | (with_reducible refine Kd.C_alloc ?_ _) | (with_reducible refine Kd.C_drewN ?_ _) | (with_reducible refine Kd.C_drew ?_))) : p := h x1.out
theorem zz67 {a1 p : Prop} (x1 : Aside0 a1) (h : a1 → p := by intro x1; (with_reducible repeat (first | apply Kd.R_alloc | apply Kd.R_drewN | apply Kd.R_drew)); exact Kd.R_mono x1 (fun _ hk => ⟨hk.1, ⟨hk.2.2, hk.2.1⟩⟩)) : p := h x1.out
theorem zz70 {a1 p : Prop} (x1 : Aside0 a1) (h : a1 → p := by intro x1; rw [hw]; exact below_set (HB.out) x1) : p := h x1.out
theorem zz29 {a1 p : Prop} (x1 : Aside0 a1) (h : a1 → p := by intro x1; (with_reducible repeat (first | apply Kd.R_alloc | apply Kd.R_drewN | apply Kd.R_drew)); exact Kd.R_mono x1 (fun _ hk => ⟨hk.2, ⟨hk.1.1, hk.1.2⟩⟩)) : p := h x1.out
theorem zz0 {p : Prop} (h : p := by rw [← add_field _ _ 1 (by omega)]; exact hc 1 _ rfl) : p := h
theorem zz4 {p : Prop} (h : p := by rw [hg]; exact (below_size (by repeat (first | (with_reducible first | exact HBW.out | apply below_alloc | apply pw_below_drewN | apply below_drew1) | exact HBW.out)))) : p := h
theorem zz53 {a1 p : Prop} (x1 : Aside0 a1) (h : a1 → p := by intro x1; (with_reducible repeat (first | apply Kd.R_alloc | apply Kd.R_drewN | apply Kd.R_drew)); exact Kd.R_mono x1 (fun _ hk => hk.1)) : p := h x1.out
theorem zz64 {a1 p : Prop} (x1 : Aside0 a1) (h : a1 → p := by intro x1; (with_reducible repeat (first | apply Kd.R_alloc | apply Kd.R_drewN | apply Kd.R_drew)); exact Kd.R_mono x1 (fun _ hk => ⟨hk.1.1.1, ⟨hk.1.2, hk.2⟩⟩)) : p := h x1.out
theorem zz65 {a1 p : Prop} (x1 : Aside0 a1) (h : a1 → p := by intro x1; (with_reducible repeat (first | apply Kd.R_alloc | apply Kd.R_drewN | apply Kd.R_drew)); exact Kd.R_mono x1 (fun _ hk => ⟨⟨hk.1.1.1, hk.1.2⟩, hk.2⟩)) : p := h x1.out
theorem zz1 {p : Prop} (h : p := by have hq := hc 0 _ rfl; rwa [Nat.mul_one, Nat.add_zero] at hq) : p := h
theorem zz30 {a1 p : Prop} (x1 : Aside0 a1) (h : a1 → p := by intro x1; (with_reducible repeat (first | apply Kd.R_alloc | apply Kd.R_drewN | apply Kd.R_drew)); exact Kd.R_mono x1 (fun _ hk => ⟨hk.2.1, ⟨hk.1, hk.2.2⟩⟩)) : p := h x1.out
theorem zz43 {a1 a2 p : Prop} (x1 : Aside0 a1) (x2 : Aside0 a2) (h : a1 → a2 → p := by intro x1 x2; (with_reducible repeat (first | refine blk_drewN ?_ _ | refine blk_drew ?_ | refine blk_alloc ?_ _)); refine blk_far ?_ x1 _; (with_reducible repeat (first | refine blk_drewN ?_ _ | refine blk_drew ?_ | refine blk_alloc ?_ _)); refine blk_far ?_ x1 _; (with_reducible repeat (first | refine blk_drewN ?_ _ | refine blk_drew ?_ | refine blk_alloc ?_ _)); exact x2) : p := h x1.out x2.out
theorem zz47 {a1 a2 p : Prop} (x1 : Aside0 a1) (x2 : Aside0 a2) (h : a1 → a2 → p := by intro x1 x2; (with_reducible repeat (first | refine blk_drewN ?_ _ | refine blk_drew ?_ | refine blk_alloc ?_ _)); refine blk_far ?_ x1 _; (with_reducible repeat (first | refine blk_drewN ?_ _ | refine blk_drew ?_ | refine blk_alloc ?_ _)); refine blk_far ?_ x1 _; (with_reducible repeat (first | refine blk_drewN ?_ _ | refine blk_drew ?_ | refine blk_alloc ?_ _)); refine blk_far ?_ x1 _; (with_reducible repeat (first | refine blk_drewN ?_ _ | refine blk_drew ?_ | refine blk_alloc ?_ _)); exact x2) : p := h x1.out x2.out
theorem zz69 {a1 a2 p : Prop} (x1 : Aside0 a1) (x2 : Aside0 a2) (h : a1 → a2 → p := by intro x1 x2; exact Kd.C_kept_came k34_heap x1 (by repeat (first | (with_reducible first | exact HB.out | apply below_alloc | apply pw_below_drewN | apply below_drew1) | exact HB.out)) (fun k_ hs_ => (fun e_ => Kd.R_base x2 k_ e_.symm) hs_)) : p := h x1.out x2.out
theorem zz71 {a1 a2 p : Prop} (x1 : Aside0 a1) (x2 : Aside0 a2) (h : a1 → a2 → p := by intro x1 x2; first | (rw [add_block]; exact Kd.own_blk (IsS64.own_ne x1 x2 (by decide))) | (show (Addr.add _ _).block ≠ _; rw [add_block]; exact Kd.own_blk (IsS64.own_ne x1 x2 (by decide))) | exact Kd.own_blk (IsS64.own_ne x1 x2 (by decide))) : p := h x1.out x2.out
theorem zz7 {a1 p : Prop} (x1 : Aside0 a1) (h : a1 → p := by intro x1; repeat (first | (with_reducible first | exact HBW.out | apply below_alloc | apply pw_below_drewN | apply below_drew1 | refine below_set ?_ x1) | exact HBW.out)) : p := h x1.out
theorem zz32 {a1 p : Prop} (x1 : Aside0 a1) (h : a1 → p := by intro x1; (with_reducible repeat (first | apply Kd.R_alloc | apply Kd.R_drewN | apply Kd.R_drew)); exact Kd.R_mono x1 (fun _ hk => ⟨⟨hk.2.1, hk.2.2⟩, hk.1⟩)) : p := h x1.out
theorem zz50 {a1 p : Prop} (x1 : Aside0 a1) (h : a1 → p := by intro x1; (with_reducible repeat (first | apply Kd.R_alloc | apply Kd.R_drewN | apply Kd.R_drew)); exact Kd.R_mono x1 (fun _ hk => ⟨hk.2, hk.1⟩)) : p := h x1.out
theorem zz54 {p : Prop} (h : p := by exact (fun k_ hk => (Nat.le_trans (below_size (by repeat (first | (with_reducible first | exact HB.out | apply below_alloc | apply pw_below_drewN | apply below_drew1) | exact HB.out))) hk))) : p := h
theorem zz55 {a1 p : Prop} (x1 : Aside0 a1) (h : a1 → p := by intro x1; (with_reducible repeat (first | apply Kd.V_alloc | apply Kd.V_drewN | apply Kd.V_drew)); exact Kd.V_mono x1 (fun _ hk => ⟨⟨hk.1, ⟨hk.2.2.1, hk.2.2.2⟩⟩, hk.2.1⟩)) : p := h x1.out
theorem zz56 {a1 p : Prop} (x1 : Aside0 a1) (h : a1 → p := by intro x1; (with_reducible repeat (first | apply Kd.V_alloc | apply Kd.V_drewN | apply Kd.V_drew)); exact Kd.V_mono x1 (fun _ hk => ⟨hk.1.1, ⟨hk.2, ⟨hk.1.2.1, hk.1.2.2⟩⟩⟩)) : p := h x1.out
theorem zz57 {a1 p : Prop} (x1 : Aside0 a1) (h : a1 → p := by intro x1; rw [← hq_]; exact (by repeat (first | (with_reducible first | exact HB.out | apply below_alloc | apply pw_below_drewN | apply below_drew1 | refine below_set ?_ x1) | exact HB.out))) : p := h x1.out
theorem zz60 {a1 p : Prop} (x1 : Aside0 a1) (h : a1 → p := by intro x1; (with_reducible repeat (first | apply Kd.R_alloc | apply Kd.R_drewN | apply Kd.R_drew)); exact Kd.R_mono x1 (fun _ hk => ⟨hk.1.1, hk.2⟩)) : p := h x1.out
theorem zz62 {a1 p : Prop} (x1 : Aside0 a1) (h : a1 → p := by intro x1; (with_reducible repeat (first | apply Kd.R_alloc | apply Kd.R_drewN | apply Kd.R_drew)); exact Kd.R_mono x1 (fun _ hk => ⟨hk.1.1.1, ⟨hk.2, hk.1.2⟩⟩)) : p := h x1.out
theorem zz63 {a1 p : Prop} (x1 : Aside0 a1) (h : a1 → p := by intro x1; (with_reducible repeat (first | apply Kd.R_alloc | apply Kd.R_drewN | apply Kd.R_drew)); exact Kd.R_mono x1 (fun _ hk => ⟨hk.1.1, ⟨hk.1.2, hk.2⟩⟩)) : p := h x1.out
end Go.Proofs.YthkjkmgbdahggaaGreat.Sq
