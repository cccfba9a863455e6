/-
  Inodes: what everybody is granted.
-/
import Derived.Test.YtcehhkdpdehjhaaPlIno
set_option linter.unusedVariables false
set_option maxRecDepth 10000
namespace Go.Rf.W
open Go Go.Rf

theorem wrapS {n : Nat} (h : n < 1000000) : wrapF .i64 ((n : Int) + 1) = ((n + 1 : Nat) : Int) := by
  rw [wrapF_i64 (by omega) (by omega)]; omega

theorem index_loop {N : Nat} (v : Int) (l : List Int) (hl : l.length < 1000000) : ∀ (d f i : Nat), i + d = l.length → d < f →
    ∃ r, loopF (slices_Index_uint32_uint32_b0 N) f (l, v, ((l.length : Nat) : Int), (i : Int)) = some r ∧
      ((v ∈ l.drop i ∧ ∃ j : Nat, r = .inl (j : Int)) ∨ (v ∉ l.drop i ∧ r = .inr ())) := by
  intro d
  induction d with
  | zero =>
    intro f i hi hf
    obtain ⟨f, rfl⟩ : ∃ g, f = g + 1 := ⟨f - 1, by omega⟩
    refine ⟨.inr (), ?_, .inr ⟨?_, rfl⟩⟩
    · show slices_Index_uint32_uint32_b0 N _ _ = _
      unfold slices_Index_uint32_uint32_b0
      dsimp only
      rw [deF (by omega), cond_false]
    · rw [List.drop_of_length_le (by omega)]; simp
  | succ d ih =>
    intro f i hi hf
    obtain ⟨f, rfl⟩ : ∃ g, f = g + 1 := ⟨f - 1, by omega⟩
    have hlt : i < l.length := by omega
    have hd : l.drop i = l[i] :: l.drop (i + 1) := List.drop_eq_getElem_cons hlt
    have hg : List.getD l i (EK.dflt (.int .u32)) = l[i] := by simp [List.getD, hlt]
    show ∃ r, slices_Index_uint32_uint32_b0 N (loopF (slices_Index_uint32_uint32_b0 N) f) _ = some r ∧ _
    generalize hnx : loopF (slices_Index_uint32_uint32_b0 N) f = nx
    unfold slices_Index_uint32_uint32_b0
    dsimp only
    rw [deT (p := (i : Int) < ((l.length : Nat) : Int)) (by omega), deT (p := (0 : Int) ≤ (i : Int)) (by omega), cond_true, Bool.and_self, cond_true, Int.toNat_natCast, hg, wrapS (by omega)]
    by_cases he : v = l[i]
    · rw [deT he, cond_true]
      exact ⟨_, rfl, .inl ⟨by rw [hd, he]; exact List.mem_cons_self, i, rfl⟩⟩
    · rw [deF he, cond_false]
      obtain ⟨r, h1, h2⟩ := ih f (i + 1) (by omega) (by omega)
      refine ⟨r, by rw [← hnx]; exact h1, ?_⟩
      rw [hd, List.mem_cons]
      rcases h2 with ⟨h3, h4⟩ | ⟨h3, h4⟩
      · exact .inl ⟨.inr h3, h4⟩
      · exact .inr ⟨fun h => h.elim he h3, h4⟩

theorem contains_ok {N : Nat} {l : List Int} (v : Int) (hl : l.length < 1000000) (hN : l.length < N) : slices_Contains_uint32_uint32 N (l, v) = some (decide (v ∈ l)) := by
  obtain ⟨r, h1, h2⟩ := index_loop (N := N) v l hl l.length N 0 (by omega) hN
  unfold slices_Contains_uint32_uint32 slices_Index_uint32_uint32 slices_Index_uint32_uint32_l0
  dsimp only
  have e0 : ((0 : Nat) : Int) = 0 := rfl
  rw [e0] at h1
  rw [h1]
  rw [List.drop_zero] at h2
  rcases h2 with ⟨h3, j, rfl⟩ | ⟨h3, rfl⟩
  · simp [h3]
  · simp [h3]

/-- The three bits that count. -/
def three (uid xuid gid mode : Int) (gids : List Int) : Int :=
  if uid = 0 then 7 else if uid = xuid then mode / 64 % 8 else if gid ∈ gids.take 16 then mode / 8 % 8 else mode % 8

theorem three_lt {uid xuid gid mode : Int} {gids : List Int} : ∃ t : Nat, three uid xuid gid mode gids = t ∧ t < 8 := by
  have h : 0 ≤ three uid xuid gid mode gids ∧ three uid xuid gid mode gids < 8 := by
    unfold three
    split
    · omega
    · split
      · omega
      · split <;> omega
  exact ⟨(three uid xuid gid mode gids).toNat, by omega, by omega⟩

theorem and7 {m : Nat} (h : m < 4294967296) : andF .u32 (m : Int) 7 = (m : Int) % 8 := by
  have h1 := andF_nat .u32 (a := m) (b := 7) (by rw [two_pow_topA]; exact h) (by rw [two_pow_topA]; decide)
  have h2 : m &&& 7 = m % 8 := Nat.and_two_pow_sub_one_eq_mod m 3
  rw [h2] at h1
  exact h1

theorem shr_nat {m n : Nat} (hn : n ≤ 32) : shrF .u32 (m : Int) (n : Int) = ((m / 2 ^ n : Nat) : Int) := shrF_nat .u32 (by simp only [bitsA]; exact hn)

theorem access_prog {N : Nat} {x1 x2 x3 x5 x6 x7 x8 x9 x10 x11 x12 x13 uid want : Int} {x14 : List UInt8} {mode : Nat} {gids : List Int} (hm : mode < 4294967296) (hl : gids.length < 1000000) (hN : 20 < N) {e : Int}
    (he : inode_Check (x1, x2, x3, (mode : Int), x5, x6, x7, x8, x9, x10, x11, x12, x13, x14) = some e) :
    inode_Access_v1 N (x1, x2, x3, (mode : Int), x5, x6, x7, x8, x9, x10, x11, x12, x13, x14, uid, gids, want) =
      cond (!(decide (e = 0))) (some 0) (Option.bind (inode_grants (three uid x6 x7 mode gids, decide (x3 = 2))) fun r => some (andF .u32 want r)) := by
  unfold inode_Access_v1
  dsimp only
  rw [he, Option.bind_some]
  congr 1
  have hmin : (if (16 : Int) < ((gids.length : Nat) : Int) then (16 : Int) else ((gids.length : Nat) : Int)) = ((min gids.length 16 : Nat) : Int) := by
    split <;> omega
  rw [hmin, deT (p := (0 : Int) ≤ ((min gids.length 16 : Nat) : Int)) (by omega), deT (p := ((min gids.length 16 : Nat) : Int) ≤ ((gids.length : Nat) : Int)) (by omega), Bool.and_self, cond_true, Int.toNat_natCast, List.drop_zero]
  have ht : gids.take (min gids.length 16) = gids.take 16 := by
    rw [List.take_eq_take_iff]; omega
  rw [ht, contains_ok _ (by simp; omega) (by simp; omega), Option.bind_some, cond_some, Option.bind_some, cond_some, Option.bind_some, cond_some, Option.bind_some]
  have key : andF .u32 (cond (decide (uid = 0)) 7 (cond (decide (uid = x6)) (shrF .u32 (mode : Int) 6) (cond (decide (x7 ∈ gids.take 16)) (shrF .u32 (mode : Int) 3) (mode : Int)))) 7 = three uid x6 x7 mode gids := by
    have h6 : shrF .u32 (mode : Int) 6 = ((mode / 64 : Nat) : Int) := shr_nat (n := 6) (by omega)
    have h3 : shrF .u32 (mode : Int) 3 = ((mode / 8 : Nat) : Int) := shr_nat (n := 3) (by omega)
    rw [h6, h3]
    unfold three
    by_cases a : uid = 0
    · rw [deT a, if_pos a]; rfl
    · rw [deF a, if_neg a, cond_false]
      by_cases b : uid = x6
      · rw [deT b, if_pos b, cond_true, and7 (by omega)]; rfl
      · rw [deF b, if_neg b, cond_false]
        by_cases c : x7 ∈ gids.take 16
        · rw [deT c, if_pos c, cond_true, and7 (by omega)]; rfl
        · rw [deF c, if_neg c, cond_false, and7 hm]
  rw [key]

theorem access_loop {N : Nat} (uid want x1 x2 x3 x5 x6 gid : Int) {mode : Nat} {gids : List Int} (hm : mode < 4294967296) (hl : gids.length < 1000000) : ∀ (d f i : Nat) (t : Int), i + d = min gids.length 16 → d < f →
    loopF (granaryref12_Access_b0 N) f (uid, gids, want, t, (i : Int), x1, x2, x3, (mode : Int), x5, x6, gid) =
      some (if gid ∈ (gids.take 16).drop i then (mode : Int) / 8 % 8 else t, x1, x2, x3, (mode : Int), x5, x6, gid) := by
  intro d
  induction d with
  | zero =>
    intro f i t hi hf
    obtain ⟨f, rfl⟩ : ∃ g, f = g + 1 := ⟨f - 1, by omega⟩
    show granaryref12_Access_b0 N _ _ = _
    unfold granaryref12_Access_b0
    dsimp only
    rw [List.drop_of_length_le (by simp; omega), if_neg (by simp), cond_some, Option.bind_some]
    by_cases h : (i : Int) < ((gids.length : Nat) : Int)
    · rw [deT h, deF (by omega), cond_true, cond_false]
    · rw [deF h, cond_false, cond_false]
  | succ d ih =>
    intro f i t hi hf
    obtain ⟨f, rfl⟩ : ∃ g, f = g + 1 := ⟨f - 1, by omega⟩
    have hlt : i < gids.length := by omega
    have hlt2 : i < (gids.take 16).length := by simp; omega
    have hd : (gids.take 16).drop i = (gids.take 16)[i] :: (gids.take 16).drop (i + 1) := List.drop_eq_getElem_cons hlt2
    have hg2 : (gids.take 16)[i] = gids[i] := by simp
    have hg : List.getD gids i (EK.dflt (.int .u32)) = gids[i] := by simp [List.getD, hlt]
    have hw : Int.tmod (wrapF .u32 (Int.tdiv (mode : Int) 8)) 8 = (mode : Int) / 8 % 8 := by
      have h1 : Int.tdiv (mode : Int) 8 = ((mode / 8 : Nat) : Int) := rfl
      rw [h1, wrapF_u32 (by omega) (by omega)]
      rfl
    show granaryref12_Access_b0 N (loopF (granaryref12_Access_b0 N) f) _ = _
    generalize hnx : loopF (granaryref12_Access_b0 N) f = nx
    unfold granaryref12_Access_b0
    dsimp only
    rw [deT (p := (i : Int) < ((gids.length : Nat) : Int)) (by omega), deT (p := (i : Int) < 16) (by omega), deT (p := (0 : Int) ≤ (i : Int)) (by omega), cond_true, Option.bind_some, cond_true, Bool.and_self, cond_true, Int.toNat_natCast, hg, hw, wrapS (by omega), cond_some, Option.bind_some]
    rw [← hnx, ih f (i + 1) _ (by omega) (by omega), hd, hg2]
    by_cases he : gids[i] = gid
    · rw [deT he, cond_true]
      have : gid ∈ gids[i] :: (gids.take 16).drop (i + 1) := by rw [he]; simp
      rw [if_pos this]
      split <;> rfl
    · rw [deF he, cond_false]
      have : (gid ∈ gids[i] :: (gids.take 16).drop (i + 1)) = (gid ∈ (gids.take 16).drop (i + 1)) := by
        simp [Ne.symm he]
      simp only [this]

/-- What the document adds up. -/
def outR (t : Int) (dir : Bool) : Int :=
  let a := cond (decide (Int.tmod (wrapF .u32 (Int.tdiv t 4)) 2 = 1)) 1 0
  let b := cond (decide (Int.tmod (wrapF .u32 (Int.tdiv t 2)) 2 = 1)) (let v := wrapF .u32 (wrapF .u32 (a + 4) + 8); cond dir (wrapF .u32 (v + 16)) v) a
  let c := cond (cond (decide (Int.tmod t 2 = 1)) dir false) (wrapF .u32 (b + 2)) b
  cond (cond (decide (Int.tmod t 2 = 1)) (!dir) false) (wrapF .u32 (c + 32)) c

theorem grants_out : ∀ t : Nat, t < 8 → ∀ d : Bool, inode_grants ((t : Int), d) = some (outR (t : Int) d) ∧ 0 ≤ outR (t : Int) d ∧ outR (t : Int) d < 64 := by decide +kernel

theorem access_ref {N : Nat} {x1 x2 x3 x5 x6 x7 x8 x9 x10 x11 x12 x13 uid want : Int} {x14 : List UInt8} {mode : Nat} {gids : List Int} (hm : mode < 4294967296) (hl : gids.length < 1000000) (hN : 20 < N) {e : Int}
    (he : granaryref12_Check (x1, x2, x3, (mode : Int), x5, x6, x7, x8, x9, x10, x11, x12, x13, x14) = some e) :
    granaryref12_Access N (x1, x2, x3, (mode : Int), x5, x6, x7, x8, x9, x10, x11, x12, x13, x14, uid, gids, want) =
      cond (!(decide (e = 0))) (some 0) (some (andF .u32 (outR (three uid x6 x7 mode gids) (decide (x3 = 2))) want)) := by
  unfold granaryref12_Access granaryref12_Access_l0
  dsimp only
  rw [he, Option.bind_some]
  congr 1
  have e0 : ((0 : Nat) : Int) = 0 := rfl
  have h := access_loop (N := N) uid want x1 x2 x3 x5 x6 x7 hm hl (min gids.length 16) N 0 (Int.tmod (mode : Int) 8) (by omega) (by omega)
  rw [e0] at h
  rw [h, Option.bind_some]
  dsimp only
  rw [cond_some, Option.bind_some, cond_some, Option.bind_some]
  have hw : Int.tmod (wrapF .u32 (Int.tdiv (mode : Int) 64)) 8 = (mode : Int) / 64 % 8 := by
    have h1 : Int.tdiv (mode : Int) 64 = ((mode / 64 : Nat) : Int) := rfl
    rw [h1, wrapF_u32 (by omega) (by omega)]
    rfl
  have key : cond (decide (uid = 0)) 7 (cond (decide (uid = x6)) (Int.tmod (wrapF .u32 (Int.tdiv (mode : Int) 64)) 8) (if x7 ∈ (gids.take 16).drop 0 then (mode : Int) / 8 % 8 else Int.tmod (mode : Int) 8)) = three uid x6 x7 mode gids := by
    unfold three
    rw [hw, List.drop_zero]
    by_cases a : uid = 0
    · rw [deT a, if_pos a]; rfl
    · rw [deF a, if_neg a, cond_false]
      by_cases b : uid = x6
      · rw [deT b, if_pos b]; rfl
      · rw [deF b, if_neg b, cond_false]; rfl
  rw [key]
  generalize three uid x6 x7 mode gids = t
  generalize decide (x3 = 2) = d
  unfold outR
  dsimp only
  rw [cond_some, Option.bind_some, cond_some, Option.bind_some, cond_some, Option.bind_some, cond_some, Option.bind_some, cond_some, Option.bind_some, cond_some, Option.bind_some, cond_some, Option.bind_some]

theorem same_loop {N : Nat} (a b y1 y2 y3 y4 y5 y6 y7 y8 y9 y10 y11 y12 y13 y15 : Int) (y14 : List UInt8) (g : List Int) : True := trivial

end Go.Rf.W
