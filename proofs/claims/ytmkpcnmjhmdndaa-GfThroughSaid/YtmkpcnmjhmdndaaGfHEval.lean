/-
  gf.Eval goes over its slice from behind (slices.Backward): walked by the law of ranges over functions.
-/
import Derived.RangeFuncNested
import Derived.RangeFuncBox
import Derived.RangeFuncLeaves
import Derived.Shelf.Abstract
import Derived.WalkKit
import Derived.OwnWalkIn
import Derived.TacticsInMore
import Derived.LoopNIn
import Derived.LoopIn
import Derived.Test.YtmkpcnmjhmdndaaGfK1
import Derived.Test.YtmkpcnmjhmdndaaRfC
set_option linter.unusedVariables false
namespace Go.Rf.W.Eval
open Go Go.Rf Go.Proofs Go.RowKit Go.Shelf
attribute [local go_sem] Oper.semAt_some

/-- WHAT HAS COME WHEN k ROUNDS ARE OVER. -/
def upto {α : Type} (f : Nat → α) (k : Nat) : List α := (List.range k).map f
theorem upto_succ {α : Type} (f : Nat → α) (k : Nat) : upto f (k + 1) = upto f k ++ [f k] := by simp [upto, List.range_succ]
theorem upto_length {α : Type} (f : Nat → α) (k : Nat) : (upto f k).length = k := by simp [upto]

abbrev B2 := { x : Int × Int // 0 ≤ x.2 ∧ x.2 < 256 }

/-- What the iterator gives in round j. -/
def fz {zs : List Int} (hz : ∀ j : Nat, 0 ≤ zs[j]?.getD 0 ∧ zs[j]?.getD 0 < 256) (len : Nat) (j : Nat) : B2 := ⟨((len : Int) - 1 - (j : Int), zs[len - 1 - j]?.getD 0), hz _⟩

theorem wrap64_of {n : Int} (h0 : -9223372036854775808 ≤ n) (h : n < 9223372036854775808) : wrap64 n = n := by unfold wrap64; omega

/-- What a round that goes on keeps: what lies below n₀, and the box Bs. -/
def Kq (n₀ Bs : Nat) (A B : World) : Prop := Below n₀ A B ∧ ∀ v, A.cell? ⟨Bs, 0, none⟩ = some v → B.cell? ⟨Bs, 0, none⟩ = some v
theorem Kq.refl (n₀ Bs : Nat) (A : World) : Kq n₀ Bs A A := ⟨Below.refl _ _, fun _ h => h⟩
theorem Kq.trans {n₀ Bs : Nat} {A B C : World} (h : Kq n₀ Bs A B) (k : Kq n₀ Bs B C) : Kq n₀ Bs A C := ⟨h.1.trans k.1, fun v e => k.2 v (h.2 v e)⟩
theorem Kq_b {n₀ Bs : Nat} {w : World} (hn : n₀ ≤ w.heap.size) (W : World) (l : Nat) (o o' : Obj) (hl : w.heap.size ≤ l) (h : W.heap[l]? = some o) (hc : o.isCells = false) (hw : o.isWalk = false) : Kq n₀ Bs W (W.putObj l o') :=
  ⟨belowK_b hn W l o o' hl h hc hw, fun v e => cell_kept e (grownBy_putObj' W l o') (fun r e => by cases e; exact ⟨o, h, hc⟩)⟩

set_option maxRecDepth 100000 in
set_option maxHeartbeats 2000000 in
theorem back1_in (F : Fence) (n : Nat) (h7 : F.fn 74) (hro : F.round = none) (hn : 1 ≤ n) (l Bs n₀ b off len cap : Nat) (zs : List Int) (hz : ∀ j : Nat, 0 ≤ zs[j]?.getD 0 ∧ zs[j]?.getD 0 < 256) (hreach : len * 8 ≤ 140737488351232) (hb : b < n₀) (J Jx : List B2 → World → Prop)
    (hY : ∀ pre x W, J pre W → pre.length < len → YieldAt F (n - 1) Try.prog l #[.int .i64 x.1.1, .int .u8 x.1.2] W fun e W' =>
      (e = .returned (.bool true) ∧ J (pre ++ [x]) W' ∧ Kq n₀ Bs W W') ∨ (e = .returned (.bool false) ∧ Jx (pre ++ [x]) W'))
    (W : World) (hBs : W.cell? ⟨Bs, 0, none⟩ = some (.slice (some ⟨b, off, none⟩) len cap)) (hc : ∀ j, j < len → W.cell? ⟨b, off + j, none⟩ = some (.int .u8 (zs[j]?.getD 0))) (h0 : J [] W) :
    CallsIn F n Try.prog 74 #[.func (.yield l) #[] #[], .pointer (some ⟨Bs, 0, none⟩)] W fun e W' => (∃ v, e = .returned v) ∧
      ((∃ ys, ys = upto (fz hz len) len ∧ J ys W') ∨ (∃ pre, (∃ k, k ≤ len ∧ pre = upto (fz hz len) k) ∧ Jx pre W')) := by
  refine callsIn_of_wp Try.func74 rfl h7 ?_ hro
  simp only [Try.ntmps74, List.size_toArray, List.length_cons, List.length_nil, Nat.reduceAdd, Nat.reduceSub, Array.replicate_succ, Array.replicate_zero, List.push_toArray, List.append_toArray, List.nil_append, List.cons_append]
  have hw0 : wrap64 ((len : Int) - 1) = (len : Int) - 1 := wrap64_of (by omega) (by omega)
  gi_wp2
  gi_loopw [3] (fun i wr => ∃ k : Nat, k ≤ len ∧ i = .int .i64 ((len : Int) - 1 - (k : Int)) ∧ J (upto (fz hz len) k) wr ∧ Kq n₀ Bs W wr)
    (fun i _ => (intOf i + 1).toNat)
  case atStart => exact ⟨0, Nat.zero_le _, by simp, h0, Kq.refl _ _ _⟩
  case round =>
    obtain ⟨k, hk, rfl, hJs, hnx⟩ := hrel
    have hcx : k < len → wr.cell? ⟨b, off + (len - 1 - k), none⟩ = some (.int .u8 (zs[len - 1 - k]?.getD 0)) := fun h => (hnx.1.cell (p := ⟨b, off + (len - 1 - k), none⟩) hb).trans (hc _ (by omega))
    have hBx : wr.cell? ⟨Bs, 0, none⟩ = some (.slice (some ⟨b, off, none⟩) len cap) := hnx.2 _ hBs
    by_cases hlt : k < len
    · obtain ⟨fn, tmps, assign, body, hy, hR⟩ := hY _ (fz hz len k) wr hJs (by rw [upto_length]; exact hlt)
      dsimp only [fz] at hy
      have hcx' := hcx hlt
      obtain ⟨i, hi⟩ : ∃ i : Nat, len - 1 - k = i := ⟨_, rfl⟩
      have hii : (len : Int) - 1 - (k : Int) = (i : Int) := by omega
      have hil : i < len := by omega
      have hw1 : wrap64 ((i : Int) - 1) = (i : Int) - 1 := wrap64_of (by omega) (by omega)
      rw [hi] at hcx' hy
      rw [hii] at hy ⊢
      gi_wp2
      refine hR.mono ?_
      rintro e W3 (⟨rfl, hJ3, hk3⟩ | ⟨rfl, hJx3⟩)
      · gi_wp2
        go_roundw
        case rel => exact ⟨k + 1, by omega, by congr 1; omega, by rw [upto_succ]; exact hJ3, hnx.trans hk3⟩
        case measure => simp [intOf]
      · gi_wp2
        refine bodyPost_ret (results_none rfl _ _ _) rfl ?_
        exact ⟨⟨_, rfl⟩, .inr ⟨_, ⟨k + 1, by omega, (upto_succ _ _).symm⟩, hJx3⟩⟩
    · obtain rfl : k = len := by omega
      have hneg : (k : Int) - 1 - (k : Int) = -1 := by omega
      rw [hneg]
      gi_wp2
      go_end0
      exact ⟨⟨_, rfl⟩, .inl ⟨_, rfl, hJs⟩⟩


set_option maxRecDepth 100000 in
set_option maxHeartbeats 1000000 in
/-- .. at an empty slice: no round. -/
theorem back1_nil_in (F : Fence) (n : Nat) (h7 : F.fn 74) (hro : F.round = none) (l Bs : Nat) (a : Option Addr) (cap : Nat) (J : List B2 → World → Prop) (W : World) (hBs : W.cell? ⟨Bs, 0, none⟩ = some (.slice a 0 cap)) (h0 : J [] W) :
    CallsIn F n Try.prog 74 #[.func (.yield l) #[] #[], .pointer (some ⟨Bs, 0, none⟩)] W fun e W' => (∃ v, e = .returned v) ∧ J [] W' := by
  refine callsIn_of_wp Try.func74 rfl h7 ?_ hro
  simp only [Try.ntmps74, List.size_toArray, List.length_cons, List.length_nil, Nat.reduceAdd, Nat.reduceSub, Array.replicate_succ, Array.replicate_zero, List.push_toArray, List.append_toArray, List.nil_append, List.cons_append]
  gi_wp2
  gi_loopw [3] (fun i wr => i = .int .i64 (-1) ∧ J [] wr) (fun _ _ => 0)
  case atStart => exact ⟨by simp, h0⟩
  case round =>
    obtain ⟨rfl, hJs⟩ := hrel
    gi_wp2
    go_end0
    exact ⟨⟨_, rfl⟩, hJs⟩

set_option maxHeartbeats 1000000 in
/-- slices.Backward(s): the slice value is boxed; the function value captures the box. -/
theorem back_in (F : Fence) (n : Nat) (h5 : F.fn 68) (hro : F.round = none) (a : Option Addr) (len cap : Nat) (w : World) :
    CallsIn F n Try.prog 68 #[.slice a len cap] w fun e w' => e = .returned (.func (.func 74) #[] #[.pointer (some ⟨w.heap.size, 0, none⟩)]) ∧ w' = w.alloc (.cells #[.slice a len cap] 29) := by
  refine callsIn_of_wp Try.func68 rfl h5 ?_ hro
  simp only [Try.ntmps68, List.size_toArray, List.length_cons, List.length_nil, Nat.reduceAdd, Nat.reduceSub, Array.replicate_succ, Array.replicate_zero, List.push_toArray, List.append_toArray, List.nil_append, List.cons_append]
  gi_wp2
  go_ret
  exact ⟨rfl, rfl⟩

/-- The slice value sv holds the bytes zs, in a block below n₀; or there are none. -/
def Bytes (n₀ : Nat) (W : World) (sv : Value) (zs : List Int) : Prop :=
  (∃ a cap, sv = .slice a 0 cap ∧ zs = []) ∨ ∃ b off cap, sv = .slice (some ⟨b, off, none⟩) zs.length cap ∧ b < n₀ ∧ ∀ j, j < zs.length → W.cell? ⟨b, off + j, none⟩ = some (.int .u8 (zs[j]?.getD 0))
theorem Bytes.below {n₀ : Nat} {A B : World} (h : Below n₀ A B) {sv : Value} {zs : List Int} : Bytes n₀ A sv zs → Bytes n₀ B sv zs
  | .inl e => .inl e
  | .inr ⟨b, off, cap, e, hb, hc⟩ => .inr ⟨b, off, cap, e, hb, fun j hj => (h.cell (p := ⟨b, off + j, none⟩) hb).trans (hc j hj)⟩
theorem Bytes.mono {n₀ n₁ : Nat} (hn : n₀ ≤ n₁) {A : World} {sv : Value} {zs : List Int} : Bytes n₀ A sv zs → Bytes n₁ A sv zs
  | .inl e => .inl e
  | .inr ⟨b, off, cap, e, hb, hc⟩ => .inr ⟨b, off, cap, e, Nat.lt_of_lt_of_le hb hn, hc⟩

theorem back_stops (F : Fence) (n : Nat) (h7 : F.fn 74) (hro : F.round = none) (hn : 1 ≤ n) (Bs n₀ : Nat) (sv : Value) (zs : List Int) (hz : ∀ j : Nat, 0 ≤ zs[j]?.getD 0 ∧ zs[j]?.getD 0 < 256) (hreach : zs.length * 8 ≤ 140737488351232) (w : World) (hBs : Bs < w.heap.size) (hn₀ : n₀ ≤ w.heap.size)
    (hc : w.cell? ⟨Bs, 0, none⟩ = some sv) (hI : Bytes n₀ w sv zs) :
    SeqStopsK F n Try.prog 74 #[.pointer (some ⟨Bs, 0, none⟩)] (fun x : B2 => #[Value.int .i64 x.1.1, Value.int .u8 x.1.2]) (Kq n₀ Bs) (fun ys => ys = upto (fz hz zs.length) zs.length)
      (fun pre => ∃ k, k ≤ zs.length ∧ pre = upto (fz hz zs.length) k) zs.length w := fun l J Jx W hW _ _ hY h0 => by
  have hc' := (hW.cell (p := ⟨Bs, 0, none⟩) hBs).trans hc
  rcases hI.below (hW.mono hn₀) with ⟨a, cap, rfl, rfl⟩ | ⟨b, off, cap, rfl, hb, hcs⟩
  · exact (back1_nil_in F n h7 hro l Bs a cap J W hc' h0).mono fun e W' ⟨he, hj⟩ => ⟨he, .inl ⟨_, rfl, hj⟩⟩
  · exact back1_in F n h7 hro hn l Bs n₀ b off zs.length cap zs hz hreach hb J Jx hY W hc' hcs h0


theorem mul_calls {N : Nat} {a b m : Int} (h : gf_Mul N (a, b) = some m) (W : World) : Calls Try.prog 12 #[.int .u8 a, .int .u8 b] W fun e W' => e = .returned (.int .u8 m) ∧ Below W.heap.size W W' := by
  have h0 := calls_below (gf_Mul_ok N) (x := (a, b)) (y := m) h (st0 := ⟨[.av (.one (.int .u8 a)), .av (.one (.int .u8 b))], []⟩) (by rfl) rfl (W := W) (vs := [.int .u8 a, .int .u8 b]) ⟨rfl, rfl, trivial⟩
  refine h0.mono ?_
  rintro e W' ⟨u, s, rom', ρ', rfl, h2, h3, h4⟩
  have : s = ⟨[.av (.one (.int .u8 m))], []⟩ := by
    have h5 : (gf_Mul_g N).out m = some ⟨[.av (.one (.int .u8 m))], []⟩ := by rfl
    rw [h5] at h2; exact (Option.some.inj h2).symm
  subst this
  exact ⟨by rw [show u = .int .u8 m from h3], h4⟩


theorem Good_hz' {N : Nat} {X : Int} {zs : List Int} (h : gf_Eval_good N X zs) (j : Nat) : 0 ≤ zs[j]?.getD 0 ∧ zs[j]?.getD 0 < 256 := by
  rcases hj : zs[j]? with _ | c
  · simp
  · simpa using h.hz c (List.mem_of_getElem? hj)

theorem st_snoc (N : Nat) (X : Int) (l : List Int) (c : Int) {v m : Int} (h : gf_Eval_st N X l = some v) (hm : gf_Mul N (v, X) = some m) : gf_Eval_st N X (l ++ [c]) = some (xorF .u8 m c) := by
  simp only [gf_Eval_st] at h
  simp only [gf_Eval_st, List.foldl_append, List.foldl_cons, List.foldl_nil, h, Option.bind_some, hm]

theorem upto_rev {zs : List Int} (hz : ∀ j : Nat, 0 ≤ zs[j]?.getD 0 ∧ zs[j]?.getD 0 < 256) : (upto (fz hz zs.length) zs.length).map (fun x => x.1.2) = zs.reverse := by
  apply List.ext_getElem
  · simp [upto]
  · intro i h1 h2
    have h3 : i < zs.length := by simpa using h2
    have h4 : zs.length - 1 - i < zs.length := by omega
    simp [upto, fz, List.getElem_reverse, h4]

theorem block_lt {w : World} {a : Addr} {v : Value} (h : w.cell? a = some v) : a.block < w.heap.size := by
  unfold World.cell? at h
  split at h
  · rename_i hb; exact (Array.getElem?_eq_some_iff.1 hb).1
  · cases h

theorem keepsFrom_of_below {B : Nat} {W W' : World} (h : Below W.heap.size W W') : KeepsFrom B W W' :=
  ⟨h.size, fun k o _ hk _ => (h.block k (Array.getElem?_eq_some_iff.1 hk).1).trans hk⟩

set_option maxRecDepth 100000 in
set_option maxHeartbeats 4000000 in
theorem eval_in {N : Nat} {X y : Int} {zs : List Int} (hG : gf_Eval_good N X zs) (hy : gf_Eval_st N X zs.reverse = some y) (a : Option Addr) (len cap : Nat) (w : World) (hI : Bytes w.heap.size w (.slice a len cap) zs) :
    CallsIn Fence.wide 10 Try.prog 40 #[.slice a len cap, .int .u8 X] w fun e W' => e = .returned (.int .u8 y) ∧ Below w.heap.size w W' := by
  refine callsIn_of_wp_marks Try.func40 rfl trivial ?_ rfl
  simp only [Try.ntmps40, List.size_toArray, List.length_cons, List.length_nil, Nat.reduceAdd, Nat.reduceSub, Array.replicate_succ, Array.replicate_zero, List.push_toArray, List.append_toArray, List.nil_append, List.cons_append]
  gi_wp2_with (refine ⟨trivial, ?_⟩; gi_at_call 68; refine (back_in Fence.wide _ trivial rfl _ _ _ _).mono ?_; rintro e w' ⟨rfl, rfl⟩)
  have bX := Boxed.new w 5 (.int .u8 X)
  have bY := Boxed.new (w.alloc (.cells #[.int .u8 X] 5)) 5 (.int .u8 0)
  have bN := Boxed.new ((w.alloc (.cells #[.int .u8 X] 5)).alloc (.cells #[.int .u8 0] 5)) 29 (.slice a len cap)
  rw [World.size_alloc] at bY
  rw [World.size_alloc, World.size_alloc] at bN
  have hB0 : Below w.heap.size w (((w.alloc (.cells #[.int .u8 X] 5)).alloc (.cells #[.int .u8 0] 5)).alloc (.cells #[.slice a len cap] 29)) := (((Below.refl _ w).alloc (Nat.le_refl _) _).alloc (by simp) _).alloc (by simp; omega) _
  refine wpIn_rangeFunc_ownG rfl (by omega) (gf := 74) (lb := #[.pointer (some ⟨w.heap.size + 1 + 1, 0, none⟩)]) rfl trivial (enters_of Try.func74 (by kernel_rfl) rfl)
    (back_stops Fence.wide _ trivial rfl (by omega) (w.heap.size + 1 + 1) w.heap.size _ zs (Good_hz' hG) hG.len _ (by simp) (by simp; omega) bN.cell (hI.below hB0)) Kq.trans (Kq_b (by simp; omega)) (Below.refl _ _) (fun _ => rfl)
    (fun pre W => ((∃ v, gf_Eval_st N X (pre.map (fun x => x.1.2)) = some v ∧ 0 ≤ v ∧ v < 256 ∧ W.cell? ⟨w.heap.size + 1, 0, none⟩ = some (.int .u8 v) ∧ W.frozen? ⟨w.heap.size + 1, 0, none⟩ = false) ∧ W.cell? ⟨w.heap.size, 0, none⟩ = some (.int .u8 X)) ∧ Below w.heap.size w W)
    (fun _ _ _ => False)
    (OwnFrom.and (Own.from (fun s A B row hs hg hr => by obtain ⟨⟨v, e1, e2, e3, e4, e5⟩, e6⟩ := hs; exact ⟨⟨v, e1, e2, e3, cell_kept e4 hg hr, (frozen_kept e4 hg hr).trans e5⟩, cell_kept e6 hg hr⟩) _) (ownFrom_below (Nat.le_refl _) (by simp; omega)))
    (fun _ _ _ _ _ hs _ _ => hs)
    ⟨⟨⟨0, rfl, by omega, by omega, (bY.alloc _).cell, (bY.alloc _).frozen⟩, ((bX.alloc _).alloc _).cell⟩, hB0⟩
    (fun x => { tmps := #[.slice a len cap, .int .u8 X, undef, .pointer (some ⟨w.heap.size, 0, none⟩), .int .u8 0, .pointer (some ⟨w.heap.size + 1, 0, none⟩), undef, .int .u8 x.1.2, .slice a len cap, .func (.func 74) #[] #[.pointer (some ⟨w.heap.size + 1 + 1, 0, none⟩)], .int .i64 x.1.1, .int .u8 x.1.2, undef, undef, undef, undef, undef, undef], defers := [] }) ?assign ?body ?done ?stop
  case assign =>
    intro l x W K hK
    gi_wp2
    exact hK
  case body =>
    rintro l pre x W ⟨⟨⟨v, e1, e2, e3, e4, e5⟩, e6⟩, hB⟩ _
    obtain ⟨m, m1, m2, m3⟩ := hG.mul v X e2 e3 hG.hX.1 hG.hX.2
    obtain ⟨x1, x2⟩ := hG.xor m x.1.2 m2 m3 x.2.1 x.2.2
    have hbl := block_lt e4
    have hbl2 := block_lt e6
    gi_wp2_with (refine ⟨trivial, ?_⟩; gi_at_call 12; refine (CallsIn.inRound l (callsIn_wide.2 (mul_calls m1 _))).mono ?_; rintro e w' ⟨rfl, hB'⟩; have hc4 := (hB'.cell (p := ⟨w.heap.size + 1, 0, none⟩) hbl).trans e4; have hf4 := (hB'.frozen (p := ⟨w.heap.size + 1, 0, none⟩) hbl).trans e5)
    refine ⟨(keepsFrom_of_below hB').trans ((KeepsOthers.setCell _ _ _).from _), ⟨(hB'.mono (Nat.le_of_lt hbl2)).trans ((Below.refl w.heap.size w').setCell (p := ⟨w.heap.size + 1, 0, none⟩) (Nat.le_succ _) _), fun u hu => ?_⟩,
      ⟨⟨⟨_, by rw [List.map_append]; exact st_snoc N X _ _ e1 m1, x1, x2, ?_, ?_⟩, ?_⟩, ?_⟩⟩
    · have h1 : (⟨w.heap.size + 1 + 1, 0, none⟩ : Addr).block ≠ (⟨w.heap.size + 1, 0, none⟩ : Addr).block := by simp
      exact ((World.cell?_of_block (Below.heap_setCell w' ⟨w.heap.size + 1, 0, none⟩ _ (w.heap.size + 1 + 1) h1)).trans (hB'.cell (p := ⟨w.heap.size + 1 + 1, 0, none⟩) (block_lt hu))).trans hu
    · rw [xorF_eq]
      exact World.cell?_setCell_same' _ _ _ (by rw [hc4]; rfl)
    · rw [World.frozen?_setCell]; exact hf4
    · have h1 : (⟨w.heap.size, 0, none⟩ : Addr).block ≠ (⟨w.heap.size + 1, 0, none⟩ : Addr).block := by simp
      exact ((World.cell?_of_block (Below.heap_setCell w' ⟨w.heap.size + 1, 0, none⟩ _ w.heap.size h1)).trans (hB'.cell (p := ⟨w.heap.size, 0, none⟩) hbl2)).trans e6
    · exact (hB.trans (hB'.mono (Nat.le_of_lt hbl2))).setCell (p := ⟨w.heap.size + 1, 0, none⟩) (Nat.le_succ _) _
  case done =>
    rintro D ys W hD rfl ⟨⟨⟨v, e1, e2, e3, e4, e5⟩, e6⟩, hB⟩ hK
    rw [upto_rev, hy] at e1
    obtain rfl := Option.some.inj e1
    gi_wp2
    refine ⟨by simp, .inl ⟨_, _, rfl, run_takeDeferred hK, ?_⟩⟩
    exact ⟨_, results_tmp rfl _ _ _, rfl, hB.trans (belowK_b (w := w) (Nat.le_refl _) W D _ _ (by simp at hD; omega) hK rfl rfl)⟩
  case stop =>
    rintro D c pre W _ _ h _
    exact h.elim

theorem reads_bytes {rom : Rom} {b o : Nat} {ds : List Value} (h : Reads rom b o ds) {w : World} {ρ : RM} {hg : Nat → Option Seg} (hR : Rel rom ρ hg w) : ∀ j v, ds[j]? = some v → w.cell? ⟨b, o + j, none⟩ = some v :=
  fun j v hj => (hR.rm b (o + j) v (h j v hj)).1

theorem lrel_bytes {rom : Rom} : ∀ {l : List Int} {ds : List Value}, LRel (EK.Rel rom (.int .u8)) l ds → ∀ j, j < l.length → ds[j]? = some (.int .u8 (l[j]?.getD 0))
  | [], ds, h, j, hj => absurd hj (by simp)
  | x :: l, ds, ⟨c, d, e, h1, h2⟩, j, hj => by
    have h3 : c = [.int .u8 x] := h1
    subst h3; subst e
    cases j with
    | zero => simp
    | succ j => simpa using lrel_bytes h2 j (by simpa using hj)

end Go.Rf.W.Eval
namespace Go.Rf.W
open Go Go.Rf Go.Proofs Go.RowKit
def gf_Eval_o : List (Shp × List Nat) := [(⟨[(0, (.av (.one (.int .u8))))], []⟩, [])]
noncomputable def gf_Eval_g (N : Nat) : GS := { ins := ⟨[(0, (.av (.one (.rsl (.int .u8))))), (1, (.av (.one (.int .u8))))], []⟩, lend := [.lend (.int .u8), .keep], outs := gf_Eval_o.map fun s => ssOf s.1, its := [.lst (.int .u8), .int], ots := [[.int]], F := gf_Eval N }
theorem rel_nil {rom : Rom} {ρ : RM} {hg : Nat → Option Seg} {w w' : World} (hR : Rel rom ρ hg w) (hB : Below w.heap.size w w') : Rel rom ρ (hget []) w' :=
  ⟨fun id g h => by simp [hget] at h, fun id id' g g' r r' h => by simp [hget] at h, fun b o v hv => ⟨(hB.cell (p := ⟨b, o, none⟩) (Eval.block_lt (hR.rm b o v hv).1)).trans (hR.rm b o v hv).1, fun id g r h => by simp [hget] at h⟩⟩

theorem tr_nil {rom : Rom} {ρ : RM} {w w' : World} (hB : Below w.heap.size w w') : Tr rom ρ (hget []) w rom ρ (hget []) w' :=
  ⟨fun _ _ _ h => h, fun _ _ h => h, hB.size, hB.os, hB.tape, hB.output, fun b hb _ => hB.block b hb, fun b o hb _ => ⟨World.cell?_of_block (hB.block b hb), by unfold frz; rw [hB.block b hb]⟩,
    fun b o ⟨id, g, r, h, _⟩ _ => by simp [hget] at h, fun b o v h1 h2 _ => by rw [h1] at h2; cases h2⟩

theorem gf_Eval_ok (N : Nat) : FnDoes Try.prog 40 (gf_Eval_g N) := by
  refine ⟨⟨Try.f40, Try.func40, by kernel_rfl, by kernel_rfl⟩, ?_⟩
  rintro ⟨zs, X⟩ y hx st0 hst rom ρ w vs hT hR hL hfree
  have hst' : embSt (gf_Eval_g N).lend.length (gf_Eval_g N).ins (encP (gf_Eval_g N).its ((zs, X) : PT (gf_Eval_g N).its)) = some ⟨[.av (.one (.rsl (.int .u8) zs)), .av (.one (.int .u8 X))], []⟩ := by rfl
  rw [hst'] at hst
  obtain rfl := Option.some.inj hst
  match vs, hT with
  | [v1, v2], ⟨h1, h2, _⟩ =>
    have h2' : v2 = .int .u8 X := h2
    subst h2'
    obtain ⟨base, cap, e1, e2, e3⟩ : EK.Rel rom (.sl (.int .u8)) zs [v1] := h1
    obtain rfl : v1 = .slice base zs.length cap := by simpa using e1
    have hx' : gf_Eval N (zs, X) = some y := hx
    unfold gf_Eval at hx'
    by_cases hG : gf_Eval_good N X zs
    · rw [if_pos hG] at hx'
      have hI : Eval.Bytes w.heap.size w (.slice base zs.length cap) zs := by
        rcases e3 with rfl | ⟨b, o, ds, rfl, h4, h5⟩
        · exact .inl ⟨_, _, rfl, rfl⟩
        · by_cases hz : zs = []
          · subst hz; exact .inl ⟨_, _, rfl, rfl⟩
          · have h6 := Eval.lrel_bytes h5
            have h7 := Eval.reads_bytes h4 hR
            have hpos : 0 < zs.length := List.length_pos_iff.2 hz
            exact .inr ⟨b, o, cap, rfl, Eval.block_lt (h7 _ _ (h6 0 hpos)), fun j hj => h7 _ _ (h6 j hj)⟩
      refine (callsIn_wide.1 (Eval.eval_in hG hx' base zs.length cap w hI)).mono ?_
      rintro e W' ⟨rfl, hB⟩
      exact ⟨_, ⟨[.av (.one (.int .u8 y))], []⟩, rom, ρ, rfl, rfl, rfl, rel_nil hR hB, fun id r g w h => by simp [hlink] at h, tr_nil hB, hfree⟩
    · rw [if_neg hG] at hx'; cases hx'
end Go.Rf.W
