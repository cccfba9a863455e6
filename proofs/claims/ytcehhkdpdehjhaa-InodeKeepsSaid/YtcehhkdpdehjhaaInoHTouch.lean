/-
  inode.Touch goes over a map of pointers, in whatever order: walked by the laws of maps.
-/
import Derived.RangeFuncNested
import Derived.RangeFuncBox
import Derived.RangeFuncLeaves
import Derived.Shelf.Abstract
import Derived.WalkKit
import Derived.OwnWalkIn
import Derived.TacticsInMore
import Derived.LoopNIn
import Derived.LoopIn
import Derived.Maps.RangeRun
import Derived.Maps.OwnIn
import Derived.Test.YtcehhkdpdehjhaaInoK1
import Derived.Test.YtcehhkdpdehjhaaRfC
set_option linter.unusedVariables false
namespace Go.Rf.W.Touch
open Go Go.Rf Go.Proofs Go.RowKit Go.Shelf
attribute [local go_sem] Oper.semAt_some

theorem run_ins (w : World) (es : Array MapEntry) (clock : Nat) (n : Int) (v : Value) (h : Instr.findNow (.int .i64) (.int .i64 n) es.toList 0 = some none) :
    (Instr.mapUpdate 102 (.map (some w.heap.size)) (.int .i64 n) v).run Try.prog (w.alloc (.map es clock)) = .ok () (w.alloc (.map (es.push ⟨.int .i64 n, v, clock⟩) (clock + 1))) := by
  have hb : (w.alloc (.map es clock)).heap[w.heap.size]? = some (.map es clock) := heap_alloc_new w _
  have hc : (Instr.checkKey false 10000 3 (.int .i64 n)).run Try.prog (w.alloc (.map es clock)) = .ok () (w.alloc (.map es clock)) := MapKept.run_checkKey (d := .int .i64) Try.underlying3 (by simp [MapKept.IsKey]) false 9999
  have e : ({ w.alloc (.map es clock) with heap := (w.alloc (.map es clock)).heap.setIfInBounds w.heap.size (.map (es.push ⟨.int .i64 n, v, clock⟩) (clock + 1)) } : World) = w.alloc (.map (es.push ⟨.int .i64 n, v, clock⟩) (clock + 1)) := by
    have hp : ∀ (h : Array Obj) (x y : Obj), (h.push x).setIfInBounds h.size y = h.push y := by
      intro h x y
      apply Array.toList_inj.1
      simp
    show ({ w with heap := (w.heap.push _).setIfInBounds w.heap.size _ } : World) = { w with heap := w.heap.push _ }
    rw [hp]
  rw [← e]
  simp [Instr.mapUpdate, run_underlying Try.underlying102, MapKept.run_getObj_map hb, hc, MapKept.run_findKey Try.underlying3 h, MapKept.run_setObj_map _ hb, Result.andThen]

def ents (b : Nat) : Array MapEntry := #[⟨.int .i64 1, .pointer (some ⟨b, 9, none⟩), 0⟩, ⟨.int .i64 2, .pointer (some ⟨b, 10, none⟩), 1⟩, ⟨.int .i64 4, .pointer (some ⟨b, 11, none⟩), 2⟩]

/-- Four blocks at the heap's end. -/
theorem set_cell (w1 : World) (c : Array Value) (t : TypeId) (o1 o2 o3 : Obj) (j : Nat) (v : Value) :
    ((((w1.alloc (.cells c t)).alloc o1).alloc o2).alloc o3).setCell ⟨w1.heap.size, j, none⟩ v = (((w1.alloc (.cells (c.setIfInBounds j v) t)).alloc o1).alloc o2).alloc o3 := by
  have e : ∀ (h : Array Obj) (f : Obj → Obj), ((((h.push (.cells c t)).push o1).push o2).push o3).modify h.size f = (((h.push (f (.cells c t))).push o1).push o2).push o3 := by
    intro h f
    apply Array.ext_getElem?
    intro i
    rw [Array.getElem?_modify]
    simp only [Array.getElem?_push, Array.size_push]
    by_cases h0 : h.size = i
    · subst h0
      have a1 : ¬ (h.size = h.size + 1 + 1 + 1) := by omega
      have a2 : ¬ (h.size = h.size + 1 + 1) := by omega
      have a3 : ¬ (h.size = h.size + 1) := by omega
      simp [a1, a2]
    · rw [if_neg h0]
      by_cases h1 : i = h.size
      · omega
      · simp [h1]
  show ({ w1 with heap := _ } : World) = { w1 with heap := _ }
  congr 1
  exact e w1.heap _

theorem set_iter (w : World) (o o' : Obj) : ChangeMaps.setBlock (w.alloc o) w.heap.size o' = w.alloc o' := by
  have hp : ∀ (h : Array Obj) (x y : Obj), (h.push x).setIfInBounds h.size y = h.push y := by
    intro h x y
    apply Array.toList_inj.1
    simp
  show ({ w with heap := (w.heap.push _).setIfInBounds w.heap.size _ } : World) = { w with heap := w.heap.push _ }
  rw [hp]

def zs : Array Value := #[.int .u64 0, .int .u32 0, .int .i64 0, .int .u32 0, .int .u32 0, .int .u32 0, .int .u32 0, .int .u64 0, .int .u64 0, .int .u64 0, .int .u64 0, .int .u64 0, .int .u64 0, .string { data := #[] }]

/-- A time is now where its bit is set and its entry has come. -/
def pk (wh bit : Int) (s : Bool) (n x : Int) : Int := if (bits BinOp.and .i64 wh bit != 0) = true ∧ s = true then n else x

def fin (wh bit n x : Int) : Int := if (bits BinOp.and .i64 wh bit != 0) = true then n else x

def Like (a b : World) : Prop := a.Alike b ∧ a.tape = b.tape

def IsPk (wh bit : Int) (s : Bool) (n x A : Int) : Prop := A = pk wh bit s n x

theorem contains_push' (seen : Array Nat) (k i : Nat) : (seen.push k).contains i = (seen.contains i || (i == k)) := by
  rw [Bool.eq_iff_iff]
  simp
theorem IsPk.other {wh bit : Int} {seen : Array Nat} {n x A : Int} {i k : Nat} (h : IsPk wh bit (seen.contains i) n x A) (hne : (i == k) = false) : IsPk wh bit ((seen.push k).contains i) n x A := by
  rw [contains_push', hne, Bool.or_false]; exact h
theorem IsPk.hit {wh bit : Int} {seen : Array Nat} {n x : Int} {k : Nat} (h : (bits BinOp.and .i64 wh bit != 0) = true) : IsPk wh bit ((seen.push k).contains k) n x n := by
  unfold IsPk pk
  rw [if_pos ⟨h, by rw [contains_push']; simp⟩]
theorem IsPk.miss {wh bit : Int} {s s' : Bool} {n x A : Int} (h : (bits BinOp.and .i64 wh bit != 0) = false) (hA : IsPk wh bit s n x A) : IsPk wh bit s' n x A := by
  unfold IsPk pk at *
  rw [h] at *
  simpa using hA
theorem IsPk.done {wh bit : Int} {n x A : Int} (h : IsPk wh bit true n x A) : A = fin wh bit n x := by
  have h' : A = pk wh bit true n x := h
  rw [h']; unfold pk fin; simp
theorem left_none {b : Nat} {seen : Array Nat} (h : (leftOf (ents b) seen).size = 0) : seen.contains 0 = true ∧ seen.contains 1 = true ∧ seen.contains 2 = true := by
  have h1 : leftOf (ents b) seen = #[] := Array.eq_empty_of_size_eq_zero h
  unfold leftOf at h1
  rw [Array.filter_eq_empty_iff] at h1
  have a0 := h1 ⟨.int .i64 1, .pointer (some ⟨b, 9, none⟩), 0⟩ (by simp [ents])
  have a1 := h1 ⟨.int .i64 2, .pointer (some ⟨b, 10, none⟩), 1⟩ (by simp [ents])
  have a2 := h1 ⟨.int .i64 4, .pointer (some ⟨b, 11, none⟩), 2⟩ (by simp [ents])
  exact ⟨by simpa using a0, by simpa using a1, by simpa using a2⟩

def chain (x : Array Value) (b : Nat) (seen : Array Nat) (w1 : World) : World :=
  (((w1.alloc (.cells x 25)).alloc (.cells zs 25)).alloc (.map (ents b) 3)).alloc (.mapIter (some (b + 1 + 1)) 3 seen 3)

theorem chain_map (x : Array Value) (seen : Array Nat) (w1 : World) : (chain x w1.heap.size seen w1).heap[w1.heap.size + 1 + 1]? = some (.map (ents w1.heap.size) 3) := by
  have h : ((w1.alloc (.cells x 25)).alloc (.cells zs 25)).heap.size = w1.heap.size + 1 + 1 := by simp
  have h2 := heap_alloc_new ((w1.alloc (.cells x 25)).alloc (.cells zs 25)) (.map (ents w1.heap.size) 3)
  rw [h] at h2
  have hlt : w1.heap.size + 1 + 1 < (((w1.alloc (.cells x 25)).alloc (.cells zs 25)).alloc (.map (ents w1.heap.size) 3)).heap.size := by simp
  exact (heap_alloc_old _ _ _ hlt).trans h2
theorem chain_iter (x : Array Value) (b : Nat) (seen : Array Nat) (w1 : World) (hb : w1.heap.size = b) : (chain x b seen w1).heap[b + 1 + 1 + 1]? = some (.mapIter (some (b + 1 + 1)) 3 seen 3) := by
  have h : (((w1.alloc (.cells x 25)).alloc (.cells zs 25)).alloc (.map (ents b) 3)).heap.size = b + 1 + 1 + 1 := by simp [hb]
  have h2 := heap_alloc_new (((w1.alloc (.cells x 25)).alloc (.cells zs 25)).alloc (.map (ents b) 3)) (.mapIter (some (b + 1 + 1)) 3 seen 3)
  rw [h] at h2
  exact h2
theorem chain_set (x : Array Value) (b : Nat) (seen seen' : Array Nat) (w1 : World) (hb : w1.heap.size = b) : ChangeMaps.setBlock (chain x b seen w1) (b + 1 + 1 + 1) (.mapIter (some (b + 1 + 1)) 3 seen' 3) = chain x b seen' w1 := by
  have h : (((w1.alloc (.cells x 25)).alloc (.cells zs 25)).alloc (.map (ents b) 3)).heap.size = b + 1 + 1 + 1 := by simp [hb]
  unfold chain
  rw [← h]
  exact set_iter _ _ _
theorem chain_get (x : Array Value) (b : Nat) (seen : Array Nat) (w1 : World) (hb : w1.heap.size = b) (j : Nat) (v : Value) (h : x[j]? = some v) : (chain x b seen w1).cell? ⟨b, j, none⟩ = some v ∧ (chain x b seen w1).frozen? ⟨b, j, none⟩ = false := by
  subst hb
  have h1 : (chain x w1.heap.size seen w1).heap[w1.heap.size]? = some (.cells x 25) := by
    have e1 : ((((w1.alloc (.cells x 25)).alloc (.cells zs 25)).alloc (.map (ents w1.heap.size) 3)).alloc (.mapIter (some (w1.heap.size + 1 + 1)) 3 seen 3)).heap[w1.heap.size]? = (w1.alloc (.cells x 25)).heap[w1.heap.size]? := by
      rw [heap_alloc_old _ _ _ (by simp; omega), heap_alloc_old _ _ _ (by simp; omega), heap_alloc_old _ _ _ (by simp)]
    exact e1.trans (heap_alloc_new w1 _)
  refine ⟨?_, ?_⟩
  · simp [World.cell?, h1, h]
  · simp [World.frozen?, h1]
theorem chain_seen (x : Array Value) (b : Nat) (seen : Array Nat) (w1 : World) (hb : w1.heap.size = b) : (chain x b seen w1).iterSeen (b + 1 + 1 + 1) = seen := by
  unfold World.iterSeen
  rw [chain_iter x b seen w1 hb]

theorem chain_cell (x : Array Value) (b : Nat) (seen : Array Nat) (w1 : World) (hb : w1.heap.size = b) (j : Nat) (v : Value) : (chain x b seen w1).setCell ⟨b, j, none⟩ v = chain (x.setIfInBounds j v) b seen w1 := by
  subst hb
  exact set_cell w1 x 25 _ _ _ j v

set_option maxRecDepth 100000 in
set_option maxHeartbeats 4000000 in
theorem touch_in (x0 x1 x2 x3 x4 x5 x6 x7 x8 x9 x10 x11 x12 : Int) (x13 : ByteArray) (wh nw : Int) (w : World) :
    CallsIn Fence.wide 10 Try.prog 36 #[.agg #[.int .u64 x0, .int .u32 x1, .int .i64 x2, .int .u32 x3, .int .u32 x4, .int .u32 x5, .int .u32 x6, .int .u64 x7, .int .u64 x8, .int .u64 x9, .int .u64 x10, .int .u64 x11, .int .u64 x12, .string x13], .int .i64 wh, .int .u64 nw] w fun e W' =>
      e = .returned (.agg #[.int .u64 x0, .int .u32 x1, .int .i64 x2, .int .u32 x3, .int .u32 x4, .int .u32 x5, .int .u32 x6, .int .u64 x7, .int .u64 x8, .int .u64 (fin wh 1 nw x9), .int .u64 (fin wh 2 nw x10), .int .u64 (fin wh 4 nw x11), .int .u64 x12, .string x13]) ∧ Below w.heap.size w W' := by
  refine callsIn_of_wp Try.func36 rfl trivial ?_ rfl
  simp only [Try.ntmps36, List.size_toArray, List.length_cons, List.length_nil, Nat.reduceAdd, Nat.reduceSub, Array.replicate_succ, Array.replicate_zero, List.push_toArray, List.append_toArray, List.nil_append, List.cons_append]
  have hmm := @run_makeMap Try.prog
  obtain ⟨V0, hV0⟩ : ∃ V, V = (w.alloc (.cells #[.int .u64 x0, .int .u32 x1, .int .i64 x2, .int .u32 x3, .int .u32 x4, .int .u32 x5, .int .u32 x6, .int .u64 x7, .int .u64 x8, .int .u64 x9, .int .u64 x10, .int .u64 x11, .int .u64 x12, .string x13] 25)).alloc (.cells #[.int .u64 0, .int .u32 0, .int .i64 0, .int .u32 0, .int .u32 0, .int .u32 0, .int .u32 0, .int .u64 0, .int .u64 0, .int .u64 0, .int .u64 0, .int .u64 0, .int .u64 0, .string { data := #[] }] 25) := ⟨_, rfl⟩
  have hsz : V0.heap.size = w.heap.size + 1 + 1 := by rw [hV0]; simp
  have hi1 := run_ins V0 #[] 0 1 (.pointer (some ⟨w.heap.size, 9, none⟩)) rfl
  have hi2 := run_ins V0 #[⟨.int .i64 1, .pointer (some ⟨w.heap.size, 9, none⟩), 0⟩] 1 2 (.pointer (some ⟨w.heap.size, 10, none⟩)) rfl
  have hi3 := run_ins V0 #[⟨.int .i64 1, .pointer (some ⟨w.heap.size, 9, none⟩), 0⟩, ⟨.int .i64 2, .pointer (some ⟨w.heap.size, 10, none⟩), 1⟩] 2 4 (.pointer (some ⟨w.heap.size, 11, none⟩)) rfl
  have hrg := run_range_map (P := Try.prog) (V0.alloc (.map (ents w.heap.size) 3)) 102 3 101 (w.heap.size + 1 + 1) (ents w.heap.size) 3 Try.underlying102 (by rw [← hsz]; exact heap_alloc_new V0 _)
  rw [hsz] at hi1 hi2 hi3
  have hsz2 : (V0.alloc (.map (ents w.heap.size) 3)).heap.size = w.heap.size + 1 + 1 + 1 := by rw [World.size_alloc, hsz]
  rw [hsz2] at hrg
  rw [hV0] at hi1 hi2 hi3 hrg
  simp only [ents, List.push_toArray, List.nil_append, List.cons_append, Nat.zero_add, Nat.reduceAdd] at hi1 hi2 hi3 hrg
  gi_wp2
  gi_loopw [7] (fun i wr => ∃ (seen : Array Nat) (w1 : World) (A M C : Int), wr = chain #[.int .u64 x0, .int .u32 x1, .int .i64 x2, .int .u32 x3, .int .u32 x4, .int .u32 x5, .int .u32 x6, .int .u64 x7, .int .u64 x8, .int .u64 A, .int .u64 M, .int .u64 C, .int .u64 x12, .string x13] w.heap.size seen w1 ∧ Like w1 w ∧
      IsPk wh 1 (seen.contains 0) nw x9 A ∧ IsPk wh 2 (seen.contains 1) nw x10 M ∧ IsPk wh 4 (seen.contains 2) nw x11 C)
    (fun _ wr => (leftOf (ents w.heap.size) (wr.iterSeen (w.heap.size + 1 + 1 + 1))).size)
  case atStart => exact ⟨#[], w, x9, x10, x11, by simp [chain, ents, zs], ⟨⟨rfl, rfl, rfl⟩, rfl⟩, by simp [IsPk, pk], by simp [IsPk, pk], by simp [IsPk, pk]⟩
  case round =>
    clear hmm hi1 hi2 hi3 hrg hsz2 hsz hV0
    obtain ⟨seen, w1, A, M, C, rfl, hal, hA, hM, hC⟩ := hrel
    have hs1 : w1.heap.size = w.heap.size := by rw [hal.1.1]
    have hmap := chain_map #[.int .u64 x0, .int .u32 x1, .int .i64 x2, .int .u32 x3, .int .u32 x4, .int .u32 x5, .int .u32 x6, .int .u64 x7, .int .u64 x8, .int .u64 A, .int .u64 M, .int .u64 C, .int .u64 x12, .string x13] seen w1
    rw [hs1] at hmap
    have hiter := chain_iter #[.int .u64 x0, .int .u32 x1, .int .i64 x2, .int .u32 x3, .int .u32 x4, .int .u32 x5, .int .u32 x6, .int .u64 x7, .int .u64 x8, .int .u64 A, .int .u64 M, .int .u64 C, .int .u64 x12, .string x13] w.heap.size seen w1 hs1
    have law := run_next_at (P := Try.prog) _ 0 (w.heap.size + 1 + 1 + 1) (w.heap.size + 1 + 1) 3 3 seen (ents w.heap.size) 3 hiter hmap (by simp [ents]) (Nat.le_refl _)
    rcases law with ⟨h0, hrun⟩ | ⟨e, he, w2, hw2, hrun⟩
    · have hs2 := hs1.symm
      clear hs1 hmap hiter
      simp only [chain, zs, ents, hs2] at hrun ⊢
      have hnx : ∀ ty, (Instr.next (.pointer (some ⟨w1.heap.size + 1 + 1 + 1, 0, none⟩)) false ty).run Try.prog _ = _ := fun _ => hrun
      obtain ⟨y0, y1, y2⟩ := left_none h0
      rw [y0] at hA
      rw [y1] at hM
      rw [y2] at hC
      gi_wp2
      refine bodyPost_ret (v := .agg #[.int .u64 x0, .int .u32 x1, .int .i64 x2, .int .u32 x3, .int .u32 x4, .int .u32 x5, .int .u32 x6, .int .u64 x7, .int .u64 x8, .int .u64 A, .int .u64 M, .int .u64 C, .int .u64 x12, .string x13]) ?_ rfl ⟨by rw [← hA.done, ← hM.done, ← hC.done], ?_⟩
      · simp [results, Try.f36, go_sem]
      · have hb : Below w1.heap.size w w1 := ⟨hal.1.2.1, hal.2, hal.1.2.2, by omega, fun k _ => by rw [hal.1.1]⟩
        rw [hs2]
        exact (((hb.alloc (Nat.le_refl _) _).alloc (by simp) _).alloc (by simp; omega) _).alloc (by simp; omega) _
    · have hX : ∃ w3 : World, Like w3 w ∧ w3.heap.size = w.heap.size ∧ w2 = chain #[.int .u64 x0, .int .u32 x1, .int .i64 x2, .int .u32 x3, .int .u32 x4, .int .u32 x5, .int .u32 x6, .int .u64 x7, .int .u64 x8, .int .u64 A, .int .u64 M, .int .u64 C, .int .u64 x12, .string x13] w.heap.size seen w3 := by
        rcases hw2 with rfl | rfl
        · exact ⟨w1, hal, hs1, rfl⟩
        · exact ⟨w1.drew, hal, hs1, rfl⟩
      obtain ⟨w3, hal3, hs3, rfl⟩ := hX
      rw [chain_set _ _ _ _ _ hs3] at hrun
      have hmap3 := chain_map #[.int .u64 x0, .int .u32 x1, .int .i64 x2, .int .u32 x3, .int .u32 x4, .int .u32 x5, .int .u32 x6, .int .u64 x7, .int .u64 x8, .int .u64 A, .int .u64 M, .int .u64 C, .int .u64 x12, .string x13] (seen.push e.born) w3
      rw [hs3] at hmap3
      have hen := run_entry_at (P := Try.prog) _ (w.heap.size + 1 + 1 + 1) (w.heap.size + 1 + 1) 3 seen (ents w.heap.size) 3 e (chain_iter #[.int .u64 x0, .int .u32 x1, .int .i64 x2, .int .u32 x3, .int .u32 x4, .int .u32 x5, .int .u32 x6, .int .u64 x7, .int .u64 x8, .int .u64 A, .int .u64 M, .int .u64 C, .int .u64 x12, .string x13] w.heap.size (seen.push e.born) w3 hs3) hmap3 (mem_left he).1 (by simp [ents])
      have hsh := left_shrinks (ents w.heap.size) seen e he
      have hm1 := (mem_left he).1
      have hm2 := (mem_left he).2
      clear hmap hiter hmap3 he
      have h3 : e = ⟨.int .i64 1, .pointer (some ⟨w.heap.size, 9, none⟩), 0⟩ ∨ e = ⟨.int .i64 2, .pointer (some ⟨w.heap.size, 10, none⟩), 1⟩ ∨ e = ⟨.int .i64 4, .pointer (some ⟨w.heap.size, 11, none⟩), 2⟩ := by simpa [ents] using hm1
      clear hm1
      rcases h3 with rfl | rfl | rfl
      · have hnx : ∀ ty, (Instr.next (.pointer (some ⟨w.heap.size + 1 + 1 + 1, 0, none⟩)) false ty).run Try.prog (chain #[.int .u64 x0, .int .u32 x1, .int .i64 x2, .int .u32 x3, .int .u32 x4, .int .u32 x5, .int .u32 x6, .int .u64 x7, .int .u64 x8, .int .u64 A, .int .u64 M, .int .u64 C, .int .u64 x12, .string x13] w.heap.size seen w1) = _ := fun _ => hrun
        obtain ⟨hc, hf⟩ := chain_get #[.int .u64 x0, .int .u32 x1, .int .i64 x2, .int .u32 x3, .int .u32 x4, .int .u32 x5, .int .u32 x6, .int .u64 x7, .int .u64 x8, .int .u64 A, .int .u64 M, .int .u64 C, .int .u64 x12, .string x13] w.heap.size (seen.push 0) w3 hs3 9 (.int .u64 A) rfl
        gi_wp2
        · rw [chain_cell _ _ _ _ hs3]
          exact ⟨⟨seen.push 0, w3, nw, M, C, rfl, hal3, IsPk.hit (by assumption), hM.other rfl, hC.other rfl⟩, by rw [chain_seen _ _ _ _ hs3, chain_seen _ _ _ _ hs1]; exact hsh⟩
        · exact ⟨⟨seen.push 0, w3, A, M, C, rfl, hal3, IsPk.miss (by assumption) hA, hM.other rfl, hC.other rfl⟩, by rw [chain_seen _ _ _ _ hs3, chain_seen _ _ _ _ hs1]; exact hsh⟩
      · have hnx : ∀ ty, (Instr.next (.pointer (some ⟨w.heap.size + 1 + 1 + 1, 0, none⟩)) false ty).run Try.prog (chain #[.int .u64 x0, .int .u32 x1, .int .i64 x2, .int .u32 x3, .int .u32 x4, .int .u32 x5, .int .u32 x6, .int .u64 x7, .int .u64 x8, .int .u64 A, .int .u64 M, .int .u64 C, .int .u64 x12, .string x13] w.heap.size seen w1) = _ := fun _ => hrun
        obtain ⟨hc, hf⟩ := chain_get #[.int .u64 x0, .int .u32 x1, .int .i64 x2, .int .u32 x3, .int .u32 x4, .int .u32 x5, .int .u32 x6, .int .u64 x7, .int .u64 x8, .int .u64 A, .int .u64 M, .int .u64 C, .int .u64 x12, .string x13] w.heap.size (seen.push 1) w3 hs3 10 (.int .u64 M) rfl
        gi_wp2
        · rw [chain_cell _ _ _ _ hs3]
          exact ⟨⟨seen.push 1, w3, A, nw, C, rfl, hal3, hA.other rfl, IsPk.hit (by assumption), hC.other rfl⟩, by rw [chain_seen _ _ _ _ hs3, chain_seen _ _ _ _ hs1]; exact hsh⟩
        · exact ⟨⟨seen.push 1, w3, A, M, C, rfl, hal3, hA.other rfl, IsPk.miss (by assumption) hM, hC.other rfl⟩, by rw [chain_seen _ _ _ _ hs3, chain_seen _ _ _ _ hs1]; exact hsh⟩
      · have hnx : ∀ ty, (Instr.next (.pointer (some ⟨w.heap.size + 1 + 1 + 1, 0, none⟩)) false ty).run Try.prog (chain #[.int .u64 x0, .int .u32 x1, .int .i64 x2, .int .u32 x3, .int .u32 x4, .int .u32 x5, .int .u32 x6, .int .u64 x7, .int .u64 x8, .int .u64 A, .int .u64 M, .int .u64 C, .int .u64 x12, .string x13] w.heap.size seen w1) = _ := fun _ => hrun
        obtain ⟨hc, hf⟩ := chain_get #[.int .u64 x0, .int .u32 x1, .int .i64 x2, .int .u32 x3, .int .u32 x4, .int .u32 x5, .int .u32 x6, .int .u64 x7, .int .u64 x8, .int .u64 A, .int .u64 M, .int .u64 C, .int .u64 x12, .string x13] w.heap.size (seen.push 2) w3 hs3 11 (.int .u64 C) rfl
        gi_wp2
        · rw [chain_cell _ _ _ _ hs3]
          exact ⟨⟨seen.push 2, w3, A, M, nw, rfl, hal3, hA.other rfl, hM.other rfl, IsPk.hit (by assumption)⟩, by rw [chain_seen _ _ _ _ hs3, chain_seen _ _ _ _ hs1]; exact hsh⟩
        · exact ⟨⟨seen.push 2, w3, A, M, C, rfl, hal3, hA.other rfl, hM.other rfl, IsPk.miss (by assumption) hC⟩, by rw [chain_seen _ _ _ _ hs3, chain_seen _ _ _ _ hs1]; exact hsh⟩

theorem block_lt {w : World} {a : Addr} {v : Value} (h : w.cell? a = some v) : a.block < w.heap.size := by
  unfold World.cell? at h
  split at h
  · rename_i hb; exact (Array.getElem?_eq_some_iff.1 hb).1
  · cases h

theorem fin_eq (wh bit n x : Int) : fin wh bit n x = cond (!(decide ((andF .i64 wh bit) = (0 : Int)))) n x := by
  rw [andF_eq]
  show (if (bits BinOp.and .i64 wh bit != 0) = true then n else x) = cond (!(decide (bits BinOp.and .i64 wh bit = 0))) n x
  by_cases h : bits BinOp.and .i64 wh bit = 0 <;> simp [h]

end Go.Rf.W.Touch
namespace Go.Rf.W
open Go Go.Rf Go.Proofs Go.RowKit
def inode_Touch_o : List (Shp × List Nat) := [(⟨[(0, (.av (.agg [(.one (.int .u64)), (.one (.int .u32)), (.one (.int .i64)), (.one (.int .u32)), (.one (.int .u32)), (.one (.int .u32)), (.one (.int .u32)), (.one (.int .u64)), (.one (.int .u64)), (.one (.int .u64)), (.one (.int .u64)), (.one (.int .u64)), (.one (.int .u64)), (.one .str)])))], []⟩, [])]
noncomputable def inode_Touch_g (N : Nat) : GS := { ins := ⟨[(0, (.av (.agg [(.one (.int .u64)), (.one (.int .u32)), (.one (.int .i64)), (.one (.int .u32)), (.one (.int .u32)), (.one (.int .u32)), (.one (.int .u32)), (.one (.int .u64)), (.one (.int .u64)), (.one (.int .u64)), (.one (.int .u64)), (.one (.int .u64)), (.one (.int .u64)), (.one .str)]))), (1, (.av (.one (.int .i64)))), (2, (.av (.one (.int .u64))))], []⟩, lend := [.keep, .keep, .keep], outs := inode_Touch_o.map fun s => ssOf s.1, its := [.int, .int, .int, .int, .int, .int, .int, .int, .int, .int, .int, .int, .int, .str, .int, .int], ots := [[.int, .int, .int, .int, .int, .int, .int, .int, .int, .int, .int, .int, .int, .str]], F := inode_Touch N }
theorem rel_nil {rom : Rom} {ρ : RM} {hg : Nat → Option Seg} {w w' : World} (hR : Rel rom ρ hg w) (hB : Below w.heap.size w w') : Rel rom ρ (hget []) w' :=
  ⟨fun id g h => by simp [hget] at h, fun id id' g g' r r' h => by simp [hget] at h, fun b o v hv => ⟨(hB.cell (p := ⟨b, o, none⟩) (Touch.block_lt (hR.rm b o v hv).1)).trans (hR.rm b o v hv).1, fun id g r h => by simp [hget] at h⟩⟩

theorem tr_nil {rom : Rom} {ρ : RM} {w w' : World} (hB : Below w.heap.size w w') : Tr rom ρ (hget []) w rom ρ (hget []) w' :=
  ⟨fun _ _ _ h => h, fun _ _ h => h, hB.size, hB.os, hB.tape, hB.output, fun b hb _ => hB.block b hb, fun b o hb _ => ⟨World.cell?_of_block (hB.block b hb), by unfold frz; rw [hB.block b hb]⟩,
    fun b o ⟨id, g, r, h, _⟩ _ => by simp [hget] at h, fun b o v h1 h2 _ => by rw [h1] at h2; cases h2⟩

theorem inode_Touch_ok (N : Nat) : FnDoes Try.prog 36 (inode_Touch_g N) := by
  refine ⟨⟨Try.f36, Try.func36, by kernel_rfl, by kernel_rfl⟩, ?_⟩
  rintro ⟨n0, n1, n2, n3, n4, n5, n6, n7, n8, n9, n10, n11, n12, s, wh, nw⟩ y hx st0 hst rom ρ w vs hT hR hL hfree
  have hst' : embSt (inode_Touch_g N).lend.length (inode_Touch_g N).ins (encP (inode_Touch_g N).its ((n0, n1, n2, n3, n4, n5, n6, n7, n8, n9, n10, n11, n12, s, wh, nw) : PT (inode_Touch_g N).its)) = some ⟨[.av (.agg [.one (.int .u64 n0), .one (.int .u32 n1), .one (.int .i64 n2), .one (.int .u32 n3), .one (.int .u32 n4), .one (.int .u32 n5), .one (.int .u32 n6), .one (.int .u64 n7), .one (.int .u64 n8), .one (.int .u64 n9), .one (.int .u64 n10), .one (.int .u64 n11), .one (.int .u64 n12), .one (.str s)]), .av (.one (.int .i64 wh)), .av (.one (.int .u64 nw))], []⟩ := by rfl
  rw [hst'] at hst
  obtain rfl := Option.some.inj hst
  match vs, hT with
  | [v1, v2, v3], ⟨h1, h2, h3, _⟩ =>
    have h2' : v2 = .int .i64 wh := h2
    have h3' : v3 = .int .u64 nw := h3
    subst h2'; subst h3'
    obtain ⟨cs, rfl, h1⟩ := h1
    obtain ⟨_, _, rfl, ⟨_, rfl, rfl⟩, _, _, rfl, ⟨_, rfl, rfl⟩, _, _, rfl, ⟨_, rfl, rfl⟩, _, _, rfl, ⟨_, rfl, rfl⟩, _, _, rfl, ⟨_, rfl, rfl⟩, _, _, rfl, ⟨_, rfl, rfl⟩, _, _, rfl, ⟨_, rfl, rfl⟩, _, _, rfl, ⟨_, rfl, rfl⟩, _, _, rfl, ⟨_, rfl, rfl⟩, _, _, rfl, ⟨_, rfl, rfl⟩, _, _, rfl, ⟨_, rfl, rfl⟩, _, _, rfl, ⟨_, rfl, rfl⟩, _, _, rfl, ⟨_, rfl, rfl⟩, _, _, rfl, ⟨_, rfl, rfl⟩, rfl⟩ := h1
    have hx' : inode_Touch N (n0, n1, n2, n3, n4, n5, n6, n7, n8, n9, n10, n11, n12, s, wh, nw) = some y := hx
    obtain rfl := Option.some.inj hx'
    refine (callsIn_wide.1 (Touch.touch_in n0 n1 n2 n3 n4 n5 n6 n7 n8 n9 n10 n11 n12 ⟨⟨s⟩⟩ wh nw w)).mono ?_
    rintro e W' ⟨rfl, hB⟩
    refine ⟨_, ⟨[.av (.agg [.one (.int .u64 n0), .one (.int .u32 n1), .one (.int .i64 n2), .one (.int .u32 n3), .one (.int .u32 n4), .one (.int .u32 n5), .one (.int .u32 n6), .one (.int .u64 n7), .one (.int .u64 n8), .one (.int .u64 (cond (!(decide ((andF .i64 wh (1 : Int)) = (0 : Int)))) nw n9)), .one (.int .u64 (cond (!(decide ((andF .i64 wh (2 : Int)) = (0 : Int)))) nw n10)), .one (.int .u64 (cond (!(decide ((andF .i64 wh (4 : Int)) = (0 : Int)))) nw n11)), .one (.int .u64 n12), .one (.str s)])], []⟩, rom, ρ, rfl, rfl, ?_, rel_nil hR hB, fun id r g w h => by simp [hlink] at h, tr_nil hB, hfree⟩
    rw [Touch.fin_eq, Touch.fin_eq, Touch.fin_eq]
    exact ⟨[Value.int .u64 n0, Value.int .u32 n1, Value.int .i64 n2, Value.int .u32 n3, Value.int .u32 n4, Value.int .u32 n5, Value.int .u32 n6, Value.int .u64 n7, Value.int .u64 n8, Value.int .u64 (cond (!(decide ((andF .i64 wh (1 : Int)) = (0 : Int)))) nw n9), Value.int .u64 (cond (!(decide ((andF .i64 wh (2 : Int)) = (0 : Int)))) nw n10), Value.int .u64 (cond (!(decide ((andF .i64 wh (4 : Int)) = (0 : Int)))) nw n11), Value.int .u64 n12, strV s], rfl, ⟨_, _, rfl, ⟨_, rfl, rfl⟩, ⟨_, _, rfl, ⟨_, rfl, rfl⟩, ⟨_, _, rfl, ⟨_, rfl, rfl⟩, ⟨_, _, rfl, ⟨_, rfl, rfl⟩, ⟨_, _, rfl, ⟨_, rfl, rfl⟩, ⟨_, _, rfl, ⟨_, rfl, rfl⟩, ⟨_, _, rfl, ⟨_, rfl, rfl⟩, ⟨_, _, rfl, ⟨_, rfl, rfl⟩, ⟨_, _, rfl, ⟨_, rfl, rfl⟩, ⟨_, _, rfl, ⟨_, rfl, rfl⟩, ⟨_, _, rfl, ⟨_, rfl, rfl⟩, ⟨_, _, rfl, ⟨_, rfl, rfl⟩, ⟨_, _, rfl, ⟨_, rfl, rfl⟩, ⟨_, _, rfl, ⟨_, rfl, rfl⟩, rfl⟩⟩⟩⟩⟩⟩⟩⟩⟩⟩⟩⟩⟩⟩⟩
end Go.Rf.W
