/-
  Inodes and handles: there and back.
-/
import Derived.Test.YtcehhkdpdehjhaaPlInoGet
set_option linter.unusedVariables false
set_option maxRecDepth 10000
namespace Go.Rf.W
open Go Go.Rf

/-! Reading where it was laid -/

def lay (cs : List (Nat × Nat)) : List Int := cs.flatMap fun c => be c.1 c.2
def place (cs : List (Nat × Nat)) (j : Nat) : Nat := ((cs.take j).map (·.1)).sum

theorem F_at (rest : List Int) : ∀ (cs : List (Nat × Nat)) (j : Nat) (k n : Nat), cs[j]? = some (k, n) → n < 256 ^ k → F (lay cs ++ rest) (place cs j) k = n
  | [], j, k, n, h, _ => by simp at h
  | (k0, n0) :: cs, 0, k, n, h, hn => by
    simp at h
    obtain ⟨rfl, rfl⟩ := h
    simp only [F, place, lay, List.take_zero, List.map_nil, List.sum_nil, List.drop_zero, List.flatMap_cons, List.append_assoc]
    rw [List.take_left' (be_length _ _), val_be hn]
  | (k0, n0) :: cs, j + 1, k, n, h, hn => by
    have ih := F_at rest cs j k n (by simpa using h) hn
    rw [← ih]
    have e : place ((k0, n0) :: cs) (j + 1) = k0 + place cs j := by simp [place]
    unfold F
    rw [e]
    simp only [lay, List.flatMap_cons, List.append_assoc]
    rw [← List.drop_drop, List.drop_left' (be_length _ _)]

theorem lay_length : ∀ cs : List (Nat × Nat), (lay cs).length = (cs.map (·.1)).sum
  | [] => rfl
  | c :: cs => by
    have := lay_length cs
    simp only [lay, List.flatMap_cons, List.length_append, be_length, List.map_cons, List.sum_cons] at this ⊢
    rw [this]

/-- What is read, laid again. -/
theorem be_F {l : List Int} (hb : ∀ x ∈ l, 0 ≤ x ∧ x < 256) {i k : Nat} (h : i + k ≤ l.length) : be k (F l i k) ++ l.drop (i + k) = l.drop i := by
  unfold F
  rw [be_val (sub_bytes hb i k) (by simp; omega), ← List.drop_drop, List.take_append_drop]

theorem toS_strB (t : List UInt8) : toS (strB t) = t := by
  unfold toS strB
  rw [List.map_map]
  have : ((fun (n : Int) => UInt8.ofNat n.toNat) ∘ fun (b : UInt8) => (b.toNat : Int)) = id := by
    funext b
    simp
  rw [this, List.map_id]

theorem strB_toS : ∀ {l : List Int}, (∀ x ∈ l, 0 ≤ x ∧ x < 256) → strB (toS l) = l
  | [], _ => rfl
  | c :: l, h => by
    have hc := h c (by simp)
    have := strB_toS (l := l) fun x hx => h x (by simp [hx])
    simp only [strB, toS, List.map_cons] at this ⊢
    rw [this]
    congr 1
    rw [UInt8.toNat_ofNat']
    omega

theorem nz_replicate : ∀ n, nz (List.replicate n 0) = false
  | 0 => rfl
  | n + 1 => by rw [List.replicate_succ, nz, nz_replicate n]; rfl

theorem nz_zeros : ∀ {l : List Int}, nz l = false → l = List.replicate l.length 0
  | [], _ => rfl
  | c :: l, h => by
    simp only [nz, Bool.or_eq_false_iff, Bool.not_eq_false', decide_eq_true_eq] at h
    rw [List.length_cons, List.replicate_succ, ← nz_zeros h.2, h.1]

/-! Inodes -/

theorem chk_facts {x : Ino} (h : chk x = 0) : (x.2.2.1 = 1 ∨ x.2.2.1 = 2 ∨ x.2.2.1 = 5) ∧ x.2.2.2.2.2.2.2.2.2.2.2.2.2.length ≤ 255 := by
  have hx := chk_ok x
  rw [h] at hx
  unfold inode_Check inode_kind at hx
  by_cases h1 : (255 : Int) < ((x.2.2.2.2.2.2.2.2.2.2.2.2.2.length : Nat) : Int)
  · rw [deT h1] at hx
    exfalso
    revert hx
    generalize decide (x.1 = (0 : Int)) = b1
    generalize decide (x.2.1 = (0 : Int)) = b2
    generalize decide (x.2.2.1 = (1 : Int)) = b3
    generalize decide (x.2.2.1 = (2 : Int)) = b4
    generalize decide (x.2.2.1 = (5 : Int)) = b5
    generalize decide ((4095 : Int) < x.2.2.2.1) = b6
    generalize decide ((32000 : Int) < x.2.2.2.2.1) = b7
    cases b1 <;> cases b2 <;> cases b3 <;> cases b4 <;> cases b5 <;> cases b6 <;> cases b7 <;> exact fun h => by cases h
  · refine ⟨?_, by omega⟩
    by_cases k1 : x.2.2.1 = 1
    · exact .inl k1
    by_cases k2 : x.2.2.1 = 2
    · exact .inr (.inl k2)
    by_cases k5 : x.2.2.1 = 5
    · exact .inr (.inr k5)
    exfalso
    rw [deF k1, deF k2, deF k5] at hx
    revert hx
    generalize decide (x.1 = (0 : Int)) = b1
    generalize decide (x.2.1 = (0 : Int)) = b2
    cases b1 <;> cases b2 <;> exact fun h => by cases h

theorem fields14 {num gen kind mode links uid gid size blocks atime mtime ctime root tl : Nat} {rest : List Int} (h1 : num < 18446744073709551616) (h2 : gen < 4294967296) (h3 : kind < 4294967296) (h4 : mode < 4294967296) (h5 : links < 4294967296) (h6 : uid < 4294967296) (h7 : gid < 4294967296) (h8 : size < 18446744073709551616) (h9 : blocks < 18446744073709551616) (h10 : atime < 18446744073709551616) (h11 : mtime < 18446744073709551616) (h12 : ctime < 18446744073709551616) (h13 : root < 18446744073709551616) (h14 : tl < 4294967296) :
    F (lay [(8, num), (4, gen), (4, kind), (4, mode), (4, links), (4, uid), (4, gid), (8, size), (8, blocks), (8, atime), (8, mtime), (8, ctime), (8, root), (4, tl)] ++ rest) 0 8 = num ∧ F (lay [(8, num), (4, gen), (4, kind), (4, mode), (4, links), (4, uid), (4, gid), (8, size), (8, blocks), (8, atime), (8, mtime), (8, ctime), (8, root), (4, tl)] ++ rest) 8 4 = gen ∧ F (lay [(8, num), (4, gen), (4, kind), (4, mode), (4, links), (4, uid), (4, gid), (8, size), (8, blocks), (8, atime), (8, mtime), (8, ctime), (8, root), (4, tl)] ++ rest) 12 4 = kind ∧ F (lay [(8, num), (4, gen), (4, kind), (4, mode), (4, links), (4, uid), (4, gid), (8, size), (8, blocks), (8, atime), (8, mtime), (8, ctime), (8, root), (4, tl)] ++ rest) 16 4 = mode ∧ F (lay [(8, num), (4, gen), (4, kind), (4, mode), (4, links), (4, uid), (4, gid), (8, size), (8, blocks), (8, atime), (8, mtime), (8, ctime), (8, root), (4, tl)] ++ rest) 20 4 = links ∧ F (lay [(8, num), (4, gen), (4, kind), (4, mode), (4, links), (4, uid), (4, gid), (8, size), (8, blocks), (8, atime), (8, mtime), (8, ctime), (8, root), (4, tl)] ++ rest) 24 4 = uid ∧ F (lay [(8, num), (4, gen), (4, kind), (4, mode), (4, links), (4, uid), (4, gid), (8, size), (8, blocks), (8, atime), (8, mtime), (8, ctime), (8, root), (4, tl)] ++ rest) 28 4 = gid ∧ F (lay [(8, num), (4, gen), (4, kind), (4, mode), (4, links), (4, uid), (4, gid), (8, size), (8, blocks), (8, atime), (8, mtime), (8, ctime), (8, root), (4, tl)] ++ rest) 32 8 = size ∧ F (lay [(8, num), (4, gen), (4, kind), (4, mode), (4, links), (4, uid), (4, gid), (8, size), (8, blocks), (8, atime), (8, mtime), (8, ctime), (8, root), (4, tl)] ++ rest) 40 8 = blocks ∧ F (lay [(8, num), (4, gen), (4, kind), (4, mode), (4, links), (4, uid), (4, gid), (8, size), (8, blocks), (8, atime), (8, mtime), (8, ctime), (8, root), (4, tl)] ++ rest) 48 8 = atime ∧ F (lay [(8, num), (4, gen), (4, kind), (4, mode), (4, links), (4, uid), (4, gid), (8, size), (8, blocks), (8, atime), (8, mtime), (8, ctime), (8, root), (4, tl)] ++ rest) 56 8 = mtime ∧ F (lay [(8, num), (4, gen), (4, kind), (4, mode), (4, links), (4, uid), (4, gid), (8, size), (8, blocks), (8, atime), (8, mtime), (8, ctime), (8, root), (4, tl)] ++ rest) 64 8 = ctime ∧ F (lay [(8, num), (4, gen), (4, kind), (4, mode), (4, links), (4, uid), (4, gid), (8, size), (8, blocks), (8, atime), (8, mtime), (8, ctime), (8, root), (4, tl)] ++ rest) 72 8 = root ∧ F (lay [(8, num), (4, gen), (4, kind), (4, mode), (4, links), (4, uid), (4, gid), (8, size), (8, blocks), (8, atime), (8, mtime), (8, ctime), (8, root), (4, tl)] ++ rest) 80 4 = tl := by
  have f := fun j k n h hn => F_at rest [(8, num), (4, gen), (4, kind), (4, mode), (4, links), (4, uid), (4, gid), (8, size), (8, blocks), (8, atime), (8, mtime), (8, ctime), (8, root), (4, tl)] j k n h hn
  refine ⟨?_, ?_, ?_, ?_, ?_, ?_, ?_, ?_, ?_, ?_, ?_, ?_, ?_, ?_⟩
  · have h := f 0 8 num rfl (by exact h1)
    rw [show place [(8, num), (4, gen), (4, kind), (4, mode), (4, links), (4, uid), (4, gid), (8, size), (8, blocks), (8, atime), (8, mtime), (8, ctime), (8, root), (4, tl)] 0 = 0 from by simp [place]] at h
    exact h
  · have h := f 1 4 gen rfl (by exact h2)
    rw [show place [(8, num), (4, gen), (4, kind), (4, mode), (4, links), (4, uid), (4, gid), (8, size), (8, blocks), (8, atime), (8, mtime), (8, ctime), (8, root), (4, tl)] 1 = 8 from by simp [place]] at h
    exact h
  · have h := f 2 4 kind rfl (by exact h3)
    rw [show place [(8, num), (4, gen), (4, kind), (4, mode), (4, links), (4, uid), (4, gid), (8, size), (8, blocks), (8, atime), (8, mtime), (8, ctime), (8, root), (4, tl)] 2 = 12 from by simp [place]] at h
    exact h
  · have h := f 3 4 mode rfl (by exact h4)
    rw [show place [(8, num), (4, gen), (4, kind), (4, mode), (4, links), (4, uid), (4, gid), (8, size), (8, blocks), (8, atime), (8, mtime), (8, ctime), (8, root), (4, tl)] 3 = 16 from by simp [place]] at h
    exact h
  · have h := f 4 4 links rfl (by exact h5)
    rw [show place [(8, num), (4, gen), (4, kind), (4, mode), (4, links), (4, uid), (4, gid), (8, size), (8, blocks), (8, atime), (8, mtime), (8, ctime), (8, root), (4, tl)] 4 = 20 from by simp [place]] at h
    exact h
  · have h := f 5 4 uid rfl (by exact h6)
    rw [show place [(8, num), (4, gen), (4, kind), (4, mode), (4, links), (4, uid), (4, gid), (8, size), (8, blocks), (8, atime), (8, mtime), (8, ctime), (8, root), (4, tl)] 5 = 24 from by simp [place]] at h
    exact h
  · have h := f 6 4 gid rfl (by exact h7)
    rw [show place [(8, num), (4, gen), (4, kind), (4, mode), (4, links), (4, uid), (4, gid), (8, size), (8, blocks), (8, atime), (8, mtime), (8, ctime), (8, root), (4, tl)] 6 = 28 from by simp [place]] at h
    exact h
  · have h := f 7 8 size rfl (by exact h8)
    rw [show place [(8, num), (4, gen), (4, kind), (4, mode), (4, links), (4, uid), (4, gid), (8, size), (8, blocks), (8, atime), (8, mtime), (8, ctime), (8, root), (4, tl)] 7 = 32 from by simp [place]] at h
    exact h
  · have h := f 8 8 blocks rfl (by exact h9)
    rw [show place [(8, num), (4, gen), (4, kind), (4, mode), (4, links), (4, uid), (4, gid), (8, size), (8, blocks), (8, atime), (8, mtime), (8, ctime), (8, root), (4, tl)] 8 = 40 from by simp [place]] at h
    exact h
  · have h := f 9 8 atime rfl (by exact h10)
    rw [show place [(8, num), (4, gen), (4, kind), (4, mode), (4, links), (4, uid), (4, gid), (8, size), (8, blocks), (8, atime), (8, mtime), (8, ctime), (8, root), (4, tl)] 9 = 48 from by simp [place]] at h
    exact h
  · have h := f 10 8 mtime rfl (by exact h11)
    rw [show place [(8, num), (4, gen), (4, kind), (4, mode), (4, links), (4, uid), (4, gid), (8, size), (8, blocks), (8, atime), (8, mtime), (8, ctime), (8, root), (4, tl)] 10 = 56 from by simp [place]] at h
    exact h
  · have h := f 11 8 ctime rfl (by exact h12)
    rw [show place [(8, num), (4, gen), (4, kind), (4, mode), (4, links), (4, uid), (4, gid), (8, size), (8, blocks), (8, atime), (8, mtime), (8, ctime), (8, root), (4, tl)] 11 = 64 from by simp [place]] at h
    exact h
  · have h := f 12 8 root rfl (by exact h13)
    rw [show place [(8, num), (4, gen), (4, kind), (4, mode), (4, links), (4, uid), (4, gid), (8, size), (8, blocks), (8, atime), (8, mtime), (8, ctime), (8, root), (4, tl)] 12 = 72 from by simp [place]] at h
    exact h
  · have h := f 13 4 tl rfl (by exact h14)
    rw [show place [(8, num), (4, gen), (4, kind), (4, mode), (4, links), (4, uid), (4, gid), (8, size), (8, blocks), (8, atime), (8, mtime), (8, ctime), (8, root), (4, tl)] 13 = 80 from by simp [place]] at h
    exact h

theorem back_ino {num gen kind mode links uid gid size blocks atime mtime ctime root : Nat} {t : List UInt8} (h1 : num < 18446744073709551616) (h2 : gen < 4294967296) (h3 : kind < 4294967296) (h4 : mode < 4294967296) (h5 : links < 4294967296) (h6 : uid < 4294967296) (h7 : gid < 4294967296)
    (h8 : size < 18446744073709551616) (h9 : blocks < 18446744073709551616) (h10 : atime < 18446744073709551616) (h11 : mtime < 18446744073709551616) (h12 : ctime < 18446744073709551616) (h13 : root < 18446744073709551616) (ht : t.length ≤ 255)
    (hc : chk ((num : Int), (gen : Int), (kind : Int), (mode : Int), (links : Int), (uid : Int), (gid : Int), (size : Int), (blocks : Int), (atime : Int), (mtime : Int), (ctime : Int), (root : Int), t) = 0) :
    GI (IB num gen kind mode links uid gid size blocks atime mtime ctime root t) = withE ((num : Int), (gen : Int), (kind : Int), (mode : Int), (links : Int), (uid : Int), (gid : Int), (size : Int), (blocks : Int), (atime : Int), (mtime : Int), (ctime : Int), (root : Int), t) 0 ∧
      (∀ x ∈ IB num gen kind mode links uid gid size blocks atime mtime ctime root t, 0 ≤ x ∧ x < 256) ∧ (IB num gen kind mode links uid gid size blocks atime mtime ctime root t).length = 84 + t.length + pad t.length := by
  have e : IB num gen kind mode links uid gid size blocks atime mtime ctime root t = lay [(8, num), (4, gen), (4, kind), (4, mode), (4, links), (4, uid), (4, gid), (8, size), (8, blocks), (8, atime), (8, mtime), (8, ctime), (8, root), (4, t.length)] ++ (strB t ++ List.replicate (pad t.length) 0) := by
    simp [IB, lay, List.append_assoc]
  have hs : (strB t).length = t.length := by simp [strB]
  have hl : (IB num gen kind mode links uid gid size blocks atime mtime ctime root t).length = 84 + t.length + pad t.length := by
    rw [e, List.length_append, lay_length, List.length_append, hs, List.length_replicate]
    simp only [List.map_cons, List.map_nil, List.sum_cons, List.sum_nil]
    omega
  have hby : ∀ x ∈ IB num gen kind mode links uid gid size blocks atime mtime ctime root t, 0 ≤ x ∧ x < 256 := by
    intro x hx
    rw [e, List.mem_append, List.mem_append] at hx
    rcases hx with hx | hx | hx
    · obtain ⟨c, _, hx⟩ := List.mem_flatMap.1 hx
      exact be_bytes _ _ x hx
    · exact strB_bytes t x hx
    · have := List.eq_of_mem_replicate hx
      omega
  refine ⟨?_, hby, hl⟩
  generalize hL : IB num gen kind mode links uid gid size blocks atime mtime ctime root t = L at e hl hby ⊢
  have hall := fields14 (rest := strB t ++ List.replicate (pad t.length) 0) h1 h2 h3 h4 h5 h6 h7 h8 h9 h10 h11 h12 h13 (show t.length < 4294967296 by omega)
  rw [← e] at hall
  obtain ⟨f0, f1, f2, f3, f4, f5, f6, f7, f8, f9, f10, f11, f12, f13⟩ := hall
  have d84 : L.drop 84 = strB t ++ List.replicate (pad t.length) 0 := by
    rw [e]
    exact List.drop_left' (by rw [lay_length]; rfl)
  have dE : L.drop (84 + t.length) = List.replicate (pad t.length) 0 := by
    rw [← List.drop_drop, d84]
    exact List.drop_left' hs
  have hio : inoOf L = ((num : Int), (gen : Int), (kind : Int), (mode : Int), (links : Int), (uid : Int), (gid : Int), (size : Int), (blocks : Int), (atime : Int), (mtime : Int), (ctime : Int), (root : Int), t) := by
    unfold inoOf
    rw [f0, f1, f2, f3, f4, f5, f6, f7, f8, f9, f10, f11, f12, f13, d84, List.take_left' hs, toS_strB]
  unfold GI
  rw [f13, hl, if_neg (by omega), if_neg (by omega), if_neg (by omega), if_neg (by omega), dE, nz_replicate, if_neg (by simp), hio, if_pos hc]

theorem laid_again {l : List Int} (hb : ∀ x ∈ l, 0 ≤ x ∧ x < 256) (h1 : ¬ l.length < 84) (h3 : ¬ l.length < 84 + F l 80 4 + pad (F l 80 4)) (h4 : ¬ 84 + F l 80 4 + pad (F l 80 4) < l.length) (h5 : nz (l.drop (84 + F l 80 4)) = false) :
    IB (F l 0 8) (F l 8 4) (F l 12 4) (F l 16 4) (F l 20 4) (F l 24 4) (F l 28 4) (F l 32 8) (F l 40 8) (F l 48 8) (F l 56 8) (F l 64 8) (F l 72 8) (toS ((l.drop 84).take (F l 80 4))) = l := by
  have ht : (toS ((l.drop 84).take (F l 80 4))).length = F l 80 4 := by simp [toS]; omega
  have hz := nz_zeros h5
  rw [List.length_drop, show l.length - (84 + F l 80 4) = pad (F l 80 4) by omega] at hz
  have hs : strB (toS ((l.drop 84).take (F l 80 4))) ++ List.replicate (pad (F l 80 4)) 0 = l.drop 84 := by
    rw [strB_toS (sub_bytes hb 84 _), ← hz, ← List.drop_drop, List.take_append_drop]
  unfold IB
  rw [ht]
  simp only [List.flatMap_cons, List.flatMap_nil, List.append_nil, List.append_assoc]
  rw [hs, be_F hb (i := 80) (k := 4) (by omega), be_F hb (i := 72) (k := 8) (by omega), be_F hb (i := 64) (k := 8) (by omega), be_F hb (i := 56) (k := 8) (by omega), be_F hb (i := 48) (k := 8) (by omega), be_F hb (i := 40) (k := 8) (by omega), be_F hb (i := 32) (k := 8) (by omega),
    be_F hb (i := 28) (k := 4) (by omega), be_F hb (i := 24) (k := 4) (by omega), be_F hb (i := 20) (k := 4) (by omega), be_F hb (i := 16) (k := 4) (by omega), be_F hb (i := 12) (k := 4) (by omega), be_F hb (i := 8) (k := 4) (by omega), be_F hb (i := 0) (k := 8) (by omega), List.drop_zero]

/-- What 'GI' answers without an error. -/
theorem GI_cases (l : List Int) : (∃ e, GI l = zeroI e ∧ ¬ e = 0) ∨
    (GI l = withE (inoOf l) 0 ∧ chk (inoOf l) = 0 ∧ ¬ l.length < 84 ∧ ¬ 255 < F l 80 4 ∧ ¬ l.length < 84 + F l 80 4 + pad (F l 80 4) ∧ ¬ 84 + F l 80 4 + pad (F l 80 4) < l.length ∧ nz (l.drop (84 + F l 80 4)) = false) := by
  unfold GI
  by_cases h1 : l.length < 84
  · rw [if_pos h1]; exact .inl ⟨3, rfl, by omega⟩
  by_cases h2 : 255 < F l 80 4
  · rw [if_neg h1, if_pos h2]; exact .inl ⟨1, rfl, by omega⟩
  by_cases h3 : l.length < 84 + F l 80 4 + pad (F l 80 4)
  · rw [if_neg h1, if_neg h2, if_pos h3]; exact .inl ⟨3, rfl, by omega⟩
  by_cases h4 : 84 + F l 80 4 + pad (F l 80 4) < l.length
  · rw [if_neg h1, if_neg h2, if_neg h3, if_pos h4]; exact .inl ⟨4, rfl, by omega⟩
  rw [if_neg h1, if_neg h2, if_neg h3, if_neg h4]
  cases h5 : nz (l.drop (84 + F l 80 4)) with
  | true => exact .inl ⟨120, rfl, by omega⟩
  | false =>
    rw [if_neg (by simp)]
    by_cases h6 : chk (inoOf l) = 0
    · rw [if_pos h6]; exact .inr ⟨rfl, h6, h1, h2, h3, h4, rfl⟩
    · rw [if_neg h6]; exact .inl ⟨_, rfl, h6⟩

/-! Handles -/

theorem back_handle {fs num gen : Nat} (h1 : fs < 4294967296) (h2 : num < 18446744073709551616) (h3 : gen < 4294967296) (hn : ¬ num = 0) (hg : ¬ gen = 0) :
    GH (hBytes fs num gen) = ((fs : Int), (num : Int), (gen : Int), 0) ∧ ∀ x ∈ hBytes fs num gen, 0 ≤ x ∧ x < 256 := by
  have e : hBytes fs num gen = lay [(4, 1196576305), (4, fs), (8, num), (4, gen)] ++ [] := by
    have : be 4 1196576305 = [71, 82, 78, 49] := by decide
    simp [hBytes, lay, this]
  have f := fun j k n h hn => F_at [] [(4, 1196576305), (4, fs), (8, num), (4, gen)] j k n h hn
  rw [← e] at f
  have f1 : F (hBytes fs num gen) 4 4 = fs := f 1 4 fs rfl h1
  have f2 : F (hBytes fs num gen) 8 8 = num := f 2 8 num rfl h2
  have f3 : F (hBytes fs num gen) 16 4 = gen := f 3 4 gen rfl h3
  have hl : (hBytes fs num gen).length = 20 := by simp [hBytes]
  have hm : magicB (hBytes fs num gen) = true := by
    unfold magicB
    have : (hBytes fs num gen).take 4 = [71, 82, 78, 49] := by simp [hBytes]
    rw [this]
    decide
  refine ⟨?_, fun x hx => ?_⟩
  · unfold GH
    rw [hm, deT hl]
    unfold F at f1 f2 f3
    rw [f1, f2, f3, deF hn, deF hg]
    rfl
  · unfold hBytes at hx
    simp only [List.mem_append] at hx
    rcases hx with ((hx | hx) | hx) | hx
    · simp at hx; omega
    · exact be_bytes _ _ x hx
    · exact be_bytes _ _ x hx
    · exact be_bytes _ _ x hx

theorem magic_eq {l : List Int} (hb : ∀ x ∈ l, 0 ≤ x ∧ x < 256) (hm : magicB l = true) : l.take 4 = [71, 82, 78, 49] := by
  have h : toS (l.take 4) = [71, 82, 78, 49] := of_decide_eq_true hm
  have := strB_toS (l := l.take 4) fun x hx => hb x (List.mem_of_mem_take hx)
  rw [h] at this
  rw [← this]
  rfl

theorem GH_cases {l : List Int} (hb : ∀ x ∈ l, 0 ≤ x ∧ x < 256) : GH l = (0, 0, 0, 121) ∨
    (GH l = ((F l 4 4 : Int), (F l 8 8 : Int), (F l 16 4 : Int), 0) ∧ ¬ F l 8 8 = 0 ∧ ¬ F l 16 4 = 0 ∧ hBytes (F l 4 4) (F l 8 8) (F l 16 4) = l) := by
  unfold GH
  rw [show val ((l.drop 4).take 4) = F l 4 4 from rfl, show val ((l.drop 8).take 8) = F l 8 8 from rfl, show val ((l.drop 16).take 4) = F l 16 4 from rfl]
  by_cases h : l.length = 20
  · cases hm : magicB l with
    | false => left; rw [deT h]; rfl
    | true =>
      by_cases h1 : F l 8 8 = 0
      · left; rw [deT h, deT h1]; rfl
      by_cases h2 : F l 16 4 = 0
      · left; rw [deT h, deF h1, deT h2]; rfl
      right
      refine ⟨by rw [deT h, deF h1, deF h2]; rfl, h1, h2, ?_⟩
      have hk := magic_eq hb hm
      unfold hBytes
      rw [← hk, List.append_assoc, List.append_assoc]
      have e3 : be 4 (F l 16 4) = l.drop 16 := by
        have := be_F hb (i := 16) (k := 4) (by omega)
        rw [List.drop_of_length_le (by omega), List.append_nil] at this
        exact this
      rw [e3, be_F hb (i := 8) (k := 8) (by omega), be_F hb (i := 4) (k := 4) (by omega), List.take_append_drop]
  · left; rw [deF h]; rfl

end Go.Rf.W
