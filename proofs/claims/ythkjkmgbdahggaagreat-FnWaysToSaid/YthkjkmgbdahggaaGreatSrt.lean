/- slices.SortedFunc(slices.Values(list), cmp) at spans hands back a new slice that holds a permutation of the list, ascending by 'from'; nothing that lay before has turned. On the condition that the list's spans lie where the slice says. -/
import Derived.RangeFuncNested
import Derived.RangeFuncLeaves
import Derived.Shelf.Abstract
import Derived.WalkKit
import Derived.OwnWalkIn
import Derived.TacticsInMore
import Derived.LoopNIn
import Derived.LoopIn
import Derived.Maps.AppendAt
import Derived.Test.YthkjkmgbdahggaaGreatShelf
namespace Go.Proofs.YthkjkmgbdahggaaGreat.Srt
open Go.RowKit Go.Shelf Go.Lib
attribute [local go_sem] Oper.semAt_some
set_option linter.unusedVariables false
set_option linter.unusedSimpArgs false
def encX (x : Int × Int) : List Value := [.int .i64 x.1, .int .i64 x.2]
def Spans (n0 : Nat) (W : World) (sv : Value) (zs : List (Int × Int)) : Prop :=
  (∃ A c, sv = .slice A 0 c ∧ zs = []) ∨ ∃ b off cap, sv = .slice (some ⟨b, off, none⟩) zs.length cap ∧ b < n0 ∧ ∀ j, j < zs.length → W.cell? ⟨b, off + j * 2, none⟩ = some (.int .i64 zs[j]!.1) ∧ W.cell? ⟨b, off + j * 2 + 1, none⟩ = some (.int .i64 zs[j]!.2)
theorem Spans.below {n0 : Nat} {A B : World} (h : Below n0 A B) {sv : Value} {zs : List (Int × Int)} : Spans n0 A sv zs → Spans n0 B sv zs
  | .inl e => .inl e
  | .inr ⟨b, off, cap, e, hb, hc⟩ => .inr ⟨b, off, cap, e, hb, fun j hj => ⟨(h.cell (p := ⟨b, _, none⟩) hb).trans (hc j hj).1, (h.cell (p := ⟨b, _, none⟩) hb).trans (hc j hj).2⟩⟩
theorem Spans.mono {n0 n1 : Nat} (h : n0 ≤ n1) {A : World} {sv : Value} {zs : List (Int × Int)} : Spans n0 A sv zs → Spans n1 A sv zs
  | .inl e => .inl e
  | .inr ⟨b, off, cap, e, hb, hc⟩ => .inr ⟨b, off, cap, e, Nat.lt_of_lt_of_le hb h, hc⟩
set_option maxRecDepth 100000 in
set_option maxHeartbeats 2000000 in
theorem values1_in (F : Fence) (n : Nat) (h7 : F.fn 87) (hro : F.round = none) (hn : 1 ≤ n) (l Bs n0 b off cap : Nat) (zs : List (Int × Int)) (hreach : zs.length * 16 ≤ 140737488355328) (hb : b < n0) (J Jx : List (Int × Int) → World → Prop)
    (hY : ∀ pre x W, J pre W → pre.length < zs.length → YieldAt F (n - 1) Tryz.prog l #[.agg #[.int .i64 x.1, .int .i64 x.2]] W fun e W' =>
      (e = .returned (.bool true) ∧ J (pre ++ [x]) W' ∧ Below n0 W W') ∨ (e = .returned (.bool false) ∧ Jx (pre ++ [x]) W'))
    (W : World) (hJ : AbidesFrom W.heap.size J) (hn0 : n0 ≤ W.heap.size) (hBs : W.cell? ⟨Bs, 0, none⟩ = some (.slice (some ⟨b, off, none⟩) zs.length cap)) (hc : ∀ j, j < zs.length → W.cell? ⟨b, off + j * 2, none⟩ = some (.int .i64 zs[j]!.1) ∧ W.cell? ⟨b, off + j * 2 + 1, none⟩ = some (.int .i64 zs[j]!.2)) (h0 : J [] W) :
    CallsIn F n Tryz.prog 87 #[.func (.yield l) #[] #[], .pointer (some ⟨Bs, 0, none⟩)] W fun e W' => (∃ v, e = .returned v) ∧
      ((∃ ys, ys = zs ∧ J ys W') ∨ (∃ pre, pre <+: zs ∧ Jx pre W')) := by
  refine callsIn_of_wp Tryz.func87 rfl h7 ?_ hro
  simp only [Tryz.ntmps87, List.size_toArray, List.length_cons, List.length_nil, Nat.reduceAdd, Nat.reduceSub, Array.replicate_succ, Array.replicate_zero, List.push_toArray, List.append_toArray, List.nil_append, List.cons_append]
  have hu := Tryz.underlying50
  gi_wp2
  gi_loopw [7] (fun i wr => ∃ k : Nat, k ≤ zs.length ∧ i = .int .i64 k ∧ J (zs.take k) wr ∧ Below n0 W wr)
    (fun i _ => zs.length - (intOf i).toNat)
  case atStart => exact ⟨0, Nat.zero_le _, rfl, by simpa using h0, Below.refl _ _⟩
  case round =>
    obtain ⟨k, hk, rfl, hJs, hnx⟩ := hrel
    by_cases hlt : k < zs.length
    · have hcx : wr.cell? ⟨b, off + k * 2, none⟩ = some (.int .i64 zs[k]!.1) := (hnx.cell (p := ⟨b, _, none⟩) hb).trans (hc k hlt).1
      have hcy : wr.cell? ⟨b, off + k * 2 + 1, none⟩ = some (.int .i64 zs[k]!.2) := (hnx.cell (p := ⟨b, _, none⟩) hb).trans (hc k hlt).2
      have hJ2 : J (zs.take k) (wr.alloc (.cells #[.int .i64 zs[k].1, .int .i64 zs[k].2] 50)) := hJ _ wr _ none hJs (World.grownBy_alloc wr _ none) (fun r e => by cases e)
      obtain ⟨fn, tmps, assign, body, hy, hR⟩ := hY _ zs[k] _ hJ2 (by rw [List.length_take]; omega)
      have hnx2 : Below n0 W (wr.alloc (.cells #[.int .i64 zs[k].1, .int .i64 zs[k].2] 50)) := hnx.alloc (Nat.le_trans hn0 hnx.size) _
      clear hJ2
      gi_wp2
      refine hR.mono ?_
      rintro e W3 (⟨rfl, hJ3, hk3⟩ | ⟨rfl, hJx3⟩)
      · gi_wp2
        go_roundw
        case rel => exact ⟨k + 1, by omega, by simp, by rw [List.take_succ_eq_append_getElem hlt]; exact hJ3, hnx2.trans hk3⟩
        case measure => simp [intOf]; omega
      · gi_wp2
        refine bodyPost_ret (results_none rfl _ _ _) rfl ?_
        exact ⟨⟨_, rfl⟩, .inr ⟨_, by rw [← List.take_succ_eq_append_getElem hlt]; exact List.take_prefix _ _, hJx3⟩⟩
    · obtain rfl : k = zs.length := by omega
      rw [List.take_length] at hJs
      gi_wp2
      go_end0
      exact ⟨⟨_, rfl⟩, .inl ⟨_, rfl, hJs⟩⟩
set_option maxRecDepth 100000 in
set_option maxHeartbeats 1000000 in
theorem values1_nil_in (F : Fence) (n : Nat) (h7 : F.fn 87) (hro : F.round = none) (l Bs : Nat) (J : List (Int × Int) → World → Prop) (W : World) (A : Option Addr) (c : Nat) (hBs : W.cell? ⟨Bs, 0, none⟩ = some (.slice A 0 c)) (h0 : J [] W) :
    CallsIn F n Tryz.prog 87 #[.func (.yield l) #[] #[], .pointer (some ⟨Bs, 0, none⟩)] W fun e W' => (∃ v, e = .returned v) ∧ J [] W' := by
  refine callsIn_of_wp Tryz.func87 rfl h7 ?_ hro
  simp only [Tryz.ntmps87, List.size_toArray, List.length_cons, List.length_nil, Nat.reduceAdd, Nat.reduceSub, Array.replicate_succ, Array.replicate_zero, List.push_toArray, List.append_toArray, List.nil_append, List.cons_append]
  gi_wp2
  gi_loopw [7] (fun i wr => i = .int .i64 0 ∧ J [] wr) (fun _ _ => 0)
  case atStart => exact ⟨rfl, h0⟩
  case round =>
    obtain ⟨rfl, hJs⟩ := hrel
    gi_wp2
    go_end0
    exact ⟨⟨_, rfl⟩, hJs⟩
set_option maxHeartbeats 1000000 in
theorem values_in (F : Fence) (n : Nat) (h5 : F.fn 63) (hro : F.round = none) (a : Option Addr) (len cap : Nat) (w : World) :
    CallsIn F n Tryz.prog 63 #[.slice a len cap] w fun e w' => e = .returned (.func (.func 87) #[] #[.pointer (some ⟨w.heap.size, 0, none⟩)]) ∧ w' = w.alloc (.cells #[.slice a len cap] 46) := by
  refine callsIn_of_wp Tryz.func63 rfl h5 ?_ hro
  simp only [Tryz.ntmps63, List.size_toArray, List.length_cons, List.length_nil, Nat.reduceAdd, Nat.reduceSub, Array.replicate_succ, Array.replicate_zero, List.push_toArray, List.append_toArray, List.nil_append, List.cons_append]
  gi_wp2
  go_ret
  exact ⟨rfl, rfl⟩
theorem values_stops (F : Fence) (n : Nat) (h7 : F.fn 87) (hro : F.round = none) (hn : 1 ≤ n) (Bs n0 : Nat) (sv : Value) (zs : List (Int × Int)) (hreach : zs.length * 16 ≤ 140737488355328) (w : World) (hBs : Bs < w.heap.size) (hn0 : n0 ≤ w.heap.size)
    (hc : w.cell? ⟨Bs, 0, none⟩ = some sv) (hI : Spans n0 w sv zs) :
    SeqStopsK F n Tryz.prog 87 #[.pointer (some ⟨Bs, 0, none⟩)] (fun x : Int × Int => #[Value.agg #[.int .i64 x.1, .int .i64 x.2]]) (Below n0) (fun ys => ys = zs) (fun pre => pre <+: zs) zs.length w := fun l J Jx W hW hJ _ hY h0 => by
  have hc' := (hW.cell (p := ⟨Bs, 0, none⟩) hBs).trans hc
  rcases hI.below (hW.mono hn0) with ⟨A, c, rfl, rfl⟩ | ⟨b, off, cap, rfl, hb, hcs⟩
  · exact (values1_nil_in F n h7 hro l Bs J W A c hc' h0).mono fun e W' ⟨he, hj⟩ => ⟨he, .inl ⟨_, rfl, hj⟩⟩
  · exact values1_in F n h7 hro hn l Bs n0 b off cap zs hreach hb J Jx hY W hJ (Nat.le_trans hn0 hW.size) hc' hcs h0
def Boxed2 (W : World) (B : Nat) (t : TypeId) (x : Int × Int) : Prop := W.heap[B]? = some (.cells #[.int .i64 x.1, .int .i64 x.2] t (0, 0))
theorem Boxed2.cell0 {W : World} {B : Nat} {t : TypeId} {x : Int × Int} (h : Boxed2 W B t x) : W.cell? ⟨B, 0, none⟩ = some (.int .i64 x.1) := by simp [World.cell?, show W.heap[B]? = _ from h]
theorem Boxed2.cell1 {W : World} {B : Nat} {t : TypeId} {x : Int × Int} (h : Boxed2 W B t x) : W.cell? ⟨B, 1, none⟩ = some (.int .i64 x.2) := by simp [World.cell?, show W.heap[B]? = _ from h]
theorem cell_two_new (w : World) (x y : Value) (t : TypeId) : ∀ (j : Nat) (u : Value), ([x, y] : List Value)[j]? = some u → (w.alloc (.cells #[x, y] t)).cell? ((⟨w.heap.size, 0, none⟩ : Addr).add j) = some u := by
  intro j u hj
  match j, hj with
  | 0, hj => simp at hj; subst hj; have h := World.alloc_heap_new w (.cells #[x, y] t); rw [show (⟨w.heap.size, 0, none⟩ : Addr).add 0 = ⟨w.heap.size, 0, none⟩ from rfl]; unfold World.cell?; rw [h]; rfl
  | 1, hj => simp at hj; subst hj; have h := World.alloc_heap_new w (.cells #[x, y] t); rw [show (⟨w.heap.size, 0, none⟩ : Addr).add 1 = ⟨w.heap.size, 1, none⟩ from rfl]; unfold World.cell?; rw [h]; rfl
  | j + 2, hj => simp at hj
theorem infoSpan : (Tryz.prog.info? 50).map (fun i => (i.zero, i.size, i.bytes)) = some (some (.agg #[.int .i64 0, .int .i64 0]), 2, 16) := by kernel_rfl
set_option maxRecDepth 100000 in
set_option maxHeartbeats 4000000 in
theorem append_in (F : Fence) (n : Nat) (h3 : F.fn 93) (h7 : F.fn 87) (hro : F.round = none) (hn : 6 ≤ n) (Bs : Nat) (sv : Value) (zs : List (Int × Int)) (hreach : zs.length * 16 ≤ 140737488355328) (hmax : zs.length ≤ maxLen) (w : World) (hBs : Bs < w.heap.size)
    (hc : w.cell? ⟨Bs, 0, none⟩ = some sv) (hI : Spans w.heap.size w sv zs) :
    CallsIn F n Tryz.prog 93 #[.slice none 0 0, .func (.func 87) #[] #[.pointer (some ⟨Bs, 0, none⟩)]] w fun e W' =>
      ∃ v, e = .returned v ∧ W'.ownsRow w.heap.size 50 2 v zs.length (zs.flatMap encX) ∧ (v = .slice none 0 0 ↔ zs = []) ∧ Below w.heap.size w W' := by
  have h1 : 1 ≤ n := by omega
  have hus := Tryz.underlying50
  obtain ⟨i0, hi, hz0, hz1, hz2⟩ := info_parts infoSpan
  refine callsIn_of_wp_marks Tryz.func93 rfl h3 ?_ hro
  simp only [Tryz.ntmps93, List.size_toArray, List.length_cons, List.length_nil, Nat.reduceAdd, Nat.reduceSub, Array.replicate_succ, Array.replicate_zero, List.push_toArray, List.append_toArray, List.nil_append, List.cons_append]
  gi_wp2
  have bS := Boxed.new w 46 (.slice none 0 0)
  have hB0 : Below w.heap.size w (w.alloc (.cells #[.slice none 0 0] 46)) := (Below.refl _ w).alloc (Nat.le_refl _) _
  have hsz : (w.alloc (.cells #[.slice none 0 0] 46)).heap.size = w.heap.size + 1 := by simp
  have hc0 : (w.alloc (.cells #[.slice none 0 0] 46)).cell? ⟨Bs, 0, none⟩ = some sv := (hB0.cell (p := ⟨Bs, 0, none⟩) hBs).trans hc
  have hI0 : Spans w.heap.size (w.alloc (.cells #[.slice none 0 0] 46)) sv zs := hI.below hB0
  obtain ⟨W0, hW0⟩ : ∃ W0, w.alloc (.cells #[.slice none 0 0] 46) = W0 := ⟨_, rfl⟩
  rw [hW0] at bS hB0 hsz hc0 hI0 ⊢
  clear hW0
  refine wpIn_rangeFunc_ownH hro h1 (gf := 87) (lb := #[.pointer (some ⟨Bs, 0, none⟩)]) rfl h7 (enters_of Tryz.func87 (by kernel_rfl) rfl)
    (values_stops F (n - 1) h7 hro (by omega) Bs w.heap.size sv zs hreach W0 (by omega) (by omega) hc0 hI0) belowK_t (belowK_b (by omega)) (Below.refl _ _) (fun _ => rfl)
    (fun pre W => (∃ v, Boxed W w.heap.size 46 v ∧ W.ownsRow w.heap.size 50 2 v pre.length (pre.flatMap encX) ∧ (v = .slice none 0 0 ↔ pre = [])) ∧ Below w.heap.size w W)
    (fun _ _ _ => False)
    (OwnFrom.and (Own.from (holdsRow_own w.heap.size w.heap.size 46 50 2 (fun pre => pre.length) (fun pre => pre.flatMap encX) (fun pre v => (v = .slice none 0 0 ↔ pre = []))) _) (ownFrom_below (Nat.le_refl _) (by omega)))
    (fun _ _ _ _ _ hs _ _ => hs)
    ⟨⟨_, bS, World.ownsRow_nil _ _ _ _, by simp⟩, hB0⟩
    (fun x a' W => ∃ Bv, w.heap.size < Bv ∧ Boxed2 W Bv 50 x ∧ a' = { tmps := #[.slice none 0 0, .func (.func 87) #[] #[.pointer (some ⟨Bs, 0, none⟩)], .pointer (some ⟨w.heap.size, 0, none⟩), undef, .slice none 0 0, .pointer (some ⟨Bv, 0, none⟩), .func (.func 87) #[] #[.pointer (some ⟨Bs, 0, none⟩)], .agg #[.int .i64 x.1, .int .i64 x.2], undef, undef, undef, undef, undef], defers := [] })
    ?hAx ?assign ?body ?done ?stop
  case hAx =>
    rintro x a' s X Y row ⟨Bv, hBv, hb, he⟩ hg hr
    refine ⟨Bv, hBv, (hg.block Bv (Array.getElem?_eq_some_iff.1 hb).1 (fun e => ?_)).trans hb, he⟩
    obtain ⟨_, o, ho, hc⟩ := hr Bv e.symm
    rw [show X.heap[Bv]? = _ from hb] at ho; cases ho; cases hc
  case assign =>
    rintro l pre x W K ⟨⟨v, hv, hrow, hnil⟩, hB⟩ hK
    gi_wp2
    exact hK _ _ ((KeepsOthers.alloc _ _).from _) ((Below.refl _ W).alloc hB.size _) ⟨⟨v, hv.alloc _, hrow.alloc _, hnil⟩, hB.alloc hB.size _⟩ ⟨W.heap.size, hv.lt, World.alloc_heap_new W _, rfl⟩
  case body =>
    rintro l pre x a' W hl ⟨r, hr⟩ ⟨⟨v, hv, hrow, hnil⟩, hB⟩ ⟨Bv, hBv, hb, rfl⟩ hlt
    have hvc := hv.cell
    have hb0 := hb.cell0
    have hb1 := hb.cell1
    gi_wp2_with (gi_at_builtin; refine wpListIn_append_own _ rfl _ _ 46 rfl w.heap.size 50 i0 (.agg #[.int .i64 0, .int .i64 0]) 2 16 Tryz.underlying46 hi hz0 hz1 hz2 rfl (by decide) _ _ _ rfl (hrow.alloc _) ⟨W.heap.size, 0, none⟩ 1 1 [.int .i64 x.1, .int .i64 x.2] rfl rfl (cell_two_new _ _ _ _) (by simp [Value.oneCell']) (by omega) (by omega) (by have := hB.size; simp; omega) ?_; intro v' w1 hown' hgrow _; obtain ⟨g', cap', rfl⟩ := ownsRow_succ hown'; obtain ⟨hv1, hv2, hr2, hk2, hb2⟩ := hv.appended (by decide) hrow hB.size (Nat.le_refl _) hown' hgrow; have hc1 := hv1.cell; have hf1 := hv1.frozen)
    exact ⟨hk2.from _, hb2, ⟨_, hv2, by rw [List.length_append, List.flatMap_append]; simpa [encX] using hr2, by simp⟩, hB.trans hb2⟩
  case done =>
    rintro D ys W hD rfl ⟨⟨v, hv, hrow, hnil⟩, hB⟩ hK
    have hvc := hv.cell
    gi_wp2
    refine ⟨by simp, .inl ⟨_, _, rfl, run_takeDeferred hK, ?_⟩⟩
    refine ⟨v, by simp [results, Tryz.results93, go_sem], ?_⟩
    exact ⟨_, rfl, ownsRow_putObj hrow _ hK rfl, hnil, hB.trans (belowK_b (w := w) (Nat.le_refl _) W D _ _ (by omega) hK rfl rfl)⟩
  case stop => rintro D c pre W hD _ hF _; exact hF.elim
set_option maxHeartbeats 1000000 in
theorem collect_in (F : Fence) (n : Nat) (h2 : F.fn 85) (h3 : F.fn 93) (h7 : F.fn 87) (hro : F.round = none) (hn : 7 ≤ n) (Bs : Nat) (sv : Value) (zs : List (Int × Int)) (hreach : zs.length * 16 ≤ 140737488355328) (hmax : zs.length ≤ maxLen) (w : World) (hBs : Bs < w.heap.size)
    (hc : w.cell? ⟨Bs, 0, none⟩ = some sv) (hI : Spans w.heap.size w sv zs) :
    CallsIn F n Tryz.prog 85 #[.func (.func 87) #[] #[.pointer (some ⟨Bs, 0, none⟩)]] w fun e W' =>
      ∃ v, e = .returned v ∧ W'.ownsRow w.heap.size 50 2 v zs.length (zs.flatMap encX) ∧ (v = .slice none 0 0 ↔ zs = []) ∧ Below w.heap.size w W' := by
  have h1 : 1 ≤ n := by omega
  refine callsIn_of_wp Tryz.func85 rfl h2 ?_ hro
  simp only [Tryz.ntmps85, List.size_toArray, List.length_cons, List.length_nil, Nat.reduceAdd, Nat.reduceSub, Array.replicate_succ, Array.replicate_zero, List.push_toArray, List.append_toArray, List.nil_append, List.cons_append]
  gi_wp2_with (gi_at_call 93; refine (append_in F (n - 1) h3 h7 hro (by omega) Bs sv zs hreach hmax w hBs hc hI).mono ?_; rintro e w' ⟨v, rfl, hrow, hnil, hb⟩)
  go_ret
  exact ⟨_, rfl, hrow, hnil, hb⟩
theorem collect (Bs : Nat) (sv : Value) (zs : List (Int × Int)) (hreach : zs.length * 16 ≤ 140737488355328) (hmax : zs.length ≤ maxLen) (w : World) (hBs : Bs < w.heap.size)
    (hc : w.cell? ⟨Bs, 0, none⟩ = some sv) (hI : Spans w.heap.size w sv zs) :
    Calls Tryz.prog 85 #[.func (.func 87) #[] #[.pointer (some ⟨Bs, 0, none⟩)]] w fun e W' =>
      ∃ v, e = .returned v ∧ W'.ownsRow w.heap.size 50 2 v zs.length (zs.flatMap encX) ∧ (v = .slice none 0 0 ↔ zs = []) ∧ Below w.heap.size w W' :=
  (callsIn_wide (n := 7)).1 (collect_in Fence.wide 7 trivial trivial trivial rfl (by omega) Bs sv zs hreach hmax w hBs hc hI)
theorem values (a : Option Addr) (len cap : Nat) (w : World) :
    Calls Tryz.prog 63 #[.slice a len cap] w fun e w' => e = .returned (.func (.func 87) #[] #[.pointer (some ⟨w.heap.size, 0, none⟩)]) ∧ w' = w.alloc (.cells #[.slice a len cap] 46) :=
  (callsIn_wide (n := 7)).1 (values_in Fence.wide 7 trivial rfl a len cap w)
open Go.Sort
theorem flat_get : ∀ (zs : List (Int × Int)) (t : Nat), t < zs.length * 2 → (zs.flatMap encX)[t]? = some ((encX zs[t / 2]!)[t % 2]!)
  | [], t, h => by simp at h
  | z :: zs, 0, _ => by simp [encX]
  | z :: zs, 1, _ => by simp [encX]
  | z :: zs, t + 2, h => by
    have ih := flat_get zs t (by simp at h; omega)
    have e1 : (t + 2) / 2 = t / 2 + 1 := by omega
    have e2 : (t + 2) % 2 = t % 2 := by omega
    rw [e1, e2]
    simpa [encX] using ih
theorem flat_length (zs : List (Int × Int)) : (zs.flatMap encX).length = zs.length * 2 := by
  induction zs with
  | nil => rfl
  | cons z zs ih => simp [encX] at ih ⊢; omega
theorem flat_drop : ∀ (zs : List (Int × Int)) (j : Nat) (x : Int × Int), zs[j]? = some x → ((zs.flatMap encX).drop (j * 2)).take 2 = encX x
  | [], j, x, h => by simp at h
  | z :: zs, 0, x, h => by simp at h; subst h; simp [encX]
  | z :: zs, j + 1, x, h => by
    have ih := flat_drop zs j x (by simpa using h)
    rw [show (j + 1) * 2 = j * 2 + 2 by omega]
    simpa [encX] using ih
theorem flatK_list (d : Array (Int × Int)) : (flatK encX 2 d).toList = d.toList.flatMap encX := by
  apply List.ext_getElem?
  intro t
  by_cases h : t < d.size * 2
  · have h2 : t / 2 < d.size := by omega
    rw [flat_get _ _ (by simpa using h), getElem!_pos d.toList (t / 2) (by simpa using h2)]
    simp [flatK, h, h2]
  · rw [List.getElem?_eq_none (by simp; omega), List.getElem?_eq_none (by rw [flat_length]; simp; omega)]
theorem take_putCells2 (cur F : Array Value) (h : F.size ≤ cur.size) : (putCells id 0 F cur).toList.take F.size = F.toList := by
  apply List.ext_getElem?
  intro j
  by_cases hj : j < F.size
  · have h2 : j < cur.size := by omega
    simp [putCells, List.getElem?_take, hj, h2]
  · rw [List.getElem?_eq_none (by simp [putCells]; omega), List.getElem?_eq_none (by simp; omega)]
theorem heap_sorted2 {w : World} {g n : Nat} {os : Array Obj} {cur : Array Value} {e : TypeId} (d : Array (Int × Int)) (hb : w.heap[g]? = some (.cells cur e (0, 0))) :
    (sortWorldK encX 2 w g 0 n d os).heap[g]? = some (.cells (putCells id 0 (flatK encX 2 d) cur) e (0, 0)) := by
  have hlt : g < w.heap.size := (Array.getElem?_eq_some_iff.1 hb).1
  unfold sortWorldK putRowK
  show (w.heap.modify g _ ++ os)[g]? = _
  rw [Array.getElem?_append_left (by simpa using hlt), Array.getElem?_modify, if_pos rfl, hb]
  rfl
theorem grownBy_sorted2 {w : World} {g n : Nat} {os : Array Obj} (d : Array (Int × Int)) : w.grownBy (sortWorldK encX 2 w g 0 n d os) (some g) := by
  refine ⟨rfl, rfl, rfl, by simp [sortWorldK, putRowK], fun k hk hne => ?_⟩
  have : g ≠ k := fun e => hne (by rw [e])
  unfold sortWorldK putRowK
  show (w.heap.modify g _ ++ os)[k]? = _
  rw [Array.getElem?_append_left (by simpa using hk), Array.getElem?_modify, if_neg this]
theorem holds_own {w : World} {g : Nat} {cur : Array Value} {e : TypeId} {zs : List (Int × Int)} {cap : Nat} (hb : w.heap[g]? = some (.cells cur e (0, 0))) (hn : zs.length ≤ cap) (hs : cur.size = cap * 2) (ht : cur.toList.take (zs.length * 2) = zs.flatMap encX) :
    HoldsK encX 2 w g 0 zs.toArray := by
  intro j hj
  simp at hj
  have e1 : (flatK encX 2 zs.toArray)[j]! = (encX zs[j / 2]!)[j % 2]! := by rw [get_flatK _ _ _ _ (by simpa using hj)]; simp
  have e2 : cur[j]? = some ((encX zs[j / 2]!)[j % 2]!) := by
    rw [← flat_get zs j hj, ← ht, List.getElem?_take, if_pos hj]; simp
  refine ⟨?_, ?_⟩
  · unfold World.cell?
    simp only [Nat.zero_add]
    rw [hb, e1]
    simpa using e2
  · unfold World.frozen?
    simp only [Nat.zero_add]
    rw [hb]
    simp
set_option maxHeartbeats 1000000 in
theorem cmpSpan (x y : Int × Int) (W : World) : Calls Tryz.prog 64 #[.agg #[.int .i64 x.1, .int .i64 x.2], .agg #[.int .i64 y.1, .int .i64 y.2]] W fun e w' => e = .returned (.int .i64 (Lib.compareInt x.1 y.1)) ∧ ∃ q os', w' = grow (W.drewN q) os' := by
  have hcon := fun W' => Any.cmp_Compare_int Tryz.lays122 x.1 y.1 W'
  change ∀ W', Calls Tryz.prog 59 _ _ _ at hcon
  generalize Lib.compareInt x.1 y.1 = r at hcon ⊢
  have hus := Tryz.underlying50
  go_enter Tryz.func64, Tryz.ntmps64
  go_wp2_with (go_at_call 59; refine (hcon _).mono ?_; rintro e w' ⟨rfl, rfl⟩)
  go_ret
  exact ⟨rfl, 0, _, by rw [alloc_eq_grow, alloc_eq_grow, grow_grow]; rfl⟩
theorem ltFrom (x y : Int × Int) : ltOf (fun x y : Int × Int => Lib.compareInt x.1 y.1) x y = decide (x.1 < y.1) := by
  unfold ltOf Lib.compareInt
  by_cases h1 : x.1 < y.1
  · simp [h1]
  · by_cases h2 : y.1 < x.1 <;> simp [h1, h2]
theorem swoFrom : SWO (ltOf fun x y : Int × Int => Lib.compareInt x.1 y.1) where
  irrefl x := by rw [ltFrom]; simp
  trans x y z h1 h2 := by rw [ltFrom] at *; simp at *; omega
  ntrans x y z h1 h2 := by rw [ltFrom] at *; simp at *; omega
def srt (zs : List (Int × Int)) : List (Int × Int) := if zs = [] then [] else (pdq (ltOf fun x y : Int × Int => Lib.compareInt x.1 y.1) zs.toArray 0 zs.length (Lib.bitLen zs.length) true true).toList
theorem srt_spec (zs : List (Int × Int)) : (srt zs).Perm zs ∧ (srt zs).Pairwise (fun a b => a.1 ≤ b.1) := by
  unfold srt
  split
  · rename_i h; subst h; exact ⟨.refl _, .nil⟩
  · have h := pdq_sorts (ltOf fun x y : Int × Int => Lib.compareInt x.1 y.1) swoFrom zs.toArray 0 zs.length (Lib.bitLen zs.length) true true (Nat.zero_le _) (by simp) (Or.inl rfl)
    generalize pdq (ltOf fun x y : Int × Int => Lib.compareInt x.1 y.1) zs.toArray 0 zs.length (Lib.bitLen zs.length) true true = d' at h
    obtain ⟨⟨hsz, _, hperm⟩, hso⟩ := h
    have hsz' : d'.size = zs.length := by simpa using hsz
    have e1 : d'.extract 0 zs.length = d' := by rw [← hsz']; exact Array.extract_size
    have e2 : zs.toArray.extract 0 zs.length = zs.toArray := by rw [← List.size_toArray]; exact Array.extract_size
    rw [e1, e2] at hperm
    refine ⟨hperm, ?_⟩
    rw [List.pairwise_iff_getElem]
    intro i j hi hj hij
    have hi' : i < d'.size := by simpa using hi
    have hj' : j < d'.size := by simpa using hj
    have := hso i j (Nat.zero_le _) hij (by omega)
    rw [getElem!_pos d' j hj', getElem!_pos d' i hi', ltFrom] at this
    simpa using this
set_option maxHeartbeats 1000000 in
theorem sorted (Bs : Nat) (sv : Value) (zs : List (Int × Int)) (hreach : zs.length * 16 ≤ 140737488355328) (hmax : zs.length ≤ maxLen) (w : World) (hBs : Bs < w.heap.size)
    (hc : w.cell? ⟨Bs, 0, none⟩ = some sv) (hI : Spans w.heap.size w sv zs) :
    Calls Tryz.prog 62 #[.func (.func 87) #[] #[.pointer (some ⟨Bs, 0, none⟩)], .func (.func 64) #[] #[]] w fun e W' =>
      ∃ v : Value, e = .returned v ∧ W'.ownsRow w.heap.size 50 2 v zs.length ((srt zs).flatMap encX) ∧ Below w.heap.size w W' := by
  have hcol := collect Bs sv zs hreach hmax w hBs hc hI
  go_enter Tryz.func62, Tryz.ntmps62
  go_wp2_with fail
  refine hcol.mono ?_
  clear hcol
  rintro e w1 ⟨v, rfl, hrow, hnil, hb⟩
  rcases hrow.2 with ⟨rfl, h0⟩ | ⟨g, cap, cur, rfl, hg, hgb, h1, h2, h3, h4⟩
  · obtain rfl : zs = [] := hnil.1 rfl
    have hs := fun W => AnyF.slices_SortFunc_none Tryz.laysSpan none 0 (.func (.func 64) #[] #[]) W
    change ∀ W, Calls Tryz.prog 86 _ _ _ at hs
    go_wp2_with (go_at_call 86; refine (hs _).mono ?_; rintro e w' ⟨rfl, rfl⟩)
    go_ret
    exact ⟨_, rfl, hrow, hb⟩
  · have eg : ∀ args w, (callFunc 64 args).run Tryz.prog w = .ok (.enter 64 args) w := enters_of Tryz.func64 (by kernel_rfl) rfl
    have hs := AnyQ.slices_SortFunc_eq Tryz.laysSpan 2 Tryz.isAgg50 Tryz.sizeOf50 encX (fun _ => rfl) (fun x v hv => by simp [encX] at hv; rcases hv with rfl | rfl <;> rfl) (fun x y => Lib.compareInt x.1 y.1) swoFrom 64 #[] g 0 cap zs.toArray w1 eg (fun _ _ _ _ x y => cmpSpan x y _) (holds_own hgb h1 h3 h4) (Array.getElem?_eq_some_iff.1 hgb).1 (by unfold maxLen at hmax; simp; omega)
    change Calls Tryz.prog 86 _ _ _ at hs
    simp only [List.size_toArray] at hs
    clear eg
    go_wp2_with (go_at_call 86; refine hs.mono ?_; rintro e w' ⟨rfl, n, os, rfl⟩)
    go_ret
    have hz : zs ≠ [] := fun h => by have := hnil.2 h; cases this
    have hsp := (srt_spec zs).1.length_eq
    have he : srt zs = (pdq (ltOf fun x y : Int × Int => Lib.compareInt x.1 y.1) zs.toArray 0 zs.length (Lib.bitLen zs.length) true true).toList := by unfold srt; rw [if_neg hz]
    rw [he]
    rw [he] at hsp
    generalize pdq (ltOf fun x y : Int × Int => Lib.compareInt x.1 y.1) zs.toArray 0 zs.length (Lib.bitLen zs.length) true true = d' at hsp ⊢
    have hsz' : d'.size = zs.length := by simpa using hsp
    refine ⟨_, rfl, ?_, hb.grown (grownBy_sorted2 _) hb.size (fun j hj => by cases hj; exact hg)⟩
    have e3 : zs.length * 2 = (flatK encX 2 d').size := by rw [size_flatK, hsz']
    have hle : (flatK encX 2 d').size ≤ cur.size := by rw [← e3]; omega
    exact ⟨by rw [flat_length]; simp [hsz'], .inr ⟨g, cap, _, rfl, hg, heap_sorted2 d' hgb, h1, h2, by simp [putCells, h3], by rw [e3, take_putCells2 _ _ hle, flatK_list]⟩⟩
end Go.Proofs.YthkjkmgbdahggaaGreat.Srt
