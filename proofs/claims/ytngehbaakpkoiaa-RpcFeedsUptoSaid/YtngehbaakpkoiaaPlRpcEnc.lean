/-
  Package xdr: rows of bytes as they are written, and how readers take them.
-/
import Derived.Test.YtngehbaakpkoiaaPlRpcRd
set_option linter.unusedVariables false
set_option maxRecDepth 10000
namespace Go.Rf.W.Pure
open Go Go.Rf Go.Rf.W

def encB (l : List Int) : List Int := be 4 l.length ++ (l ++ List.replicate (padn l.length) 0)

theorem encB_length (l : List Int) : (encB l).length = 4 + l.length + padn l.length := by simp [encB]; omega

theorem zeros_rep : ∀ {l : List Int}, zeros l = true → l = List.replicate l.length 0
  | [], _ => rfl
  | x :: l, h => by
    simp only [zeros, List.all_cons, Bool.and_eq_true, decide_eq_true_eq] at h
    rw [List.length_cons, List.replicate_succ, h.1, ← zeros_rep (l := l) h.2]

theorem rep_zeros (n : Nat) : zeros (List.replicate n 0) = true := by
  simp [zeros]

theorem rep_bts (n : Nat) : Bts (List.replicate n 0) := fun x hx => by
  have := List.eq_of_mem_replicate hx
  omega

theorem encB_bts {l : List Int} (h : Bts l) : Bts (encB l) := by
  intro x hx
  simp only [encB, List.mem_append] at hx
  rcases hx with hx | hx | hx
  · exact be_bytes _ _ x hx
  · exact h x hx
  · exact rep_bts _ x hx

theorem drop_take {D : List Int} (a n : Nat) : D.drop a = (D.drop a).take n ++ D.drop (a + n) := by
  rw [← List.drop_drop, List.take_append_drop]

theorem opq_good {M : Int} {D : List Int} {a : Nat} (hb : Bts D) (h : opq M D a = 0) :
    a + 4 + numAt D a + padn (numAt D a) ≤ D.length ∧ (numAt D a : Int) ≤ M ∧ ((D.drop (a + 4)).take (numAt D a)).length = numAt D a ∧
    D.drop a = encB ((D.drop (a + 4)).take (numAt D a)) ++ D.drop (a + 4 + numAt D a + padn (numAt D a)) := by
  unfold opq at h
  by_cases h1 : D.length < a + 4
  · rw [if_pos h1] at h; cases h
  rw [if_neg h1] at h
  by_cases h2 : M < (numAt D a : Int)
  · rw [if_pos h2] at h; cases h
  rw [if_neg h2] at h
  by_cases h3 : D.length < a + 4 + numAt D a + padn (numAt D a)
  · rw [if_pos h3] at h; cases h
  rw [if_neg h3] at h
  by_cases h4 : zeros ((D.drop (a + 4 + numAt D a)).take (padn (numAt D a))) = true
  · have hl : ((D.drop (a + 4)).take (numAt D a)).length = numAt D a := by simp; omega
    refine ⟨by omega, by omega, hl, ?_⟩
    have e1 := drop_take (D := D) a 4
    have e2 := drop_take (D := D) (a + 4) (numAt D a)
    have e3 := drop_take (D := D) (a + 4 + numAt D a) (padn (numAt D a))
    have e4 := zeros_rep h4
    have e5 : ((D.drop (a + 4 + numAt D a)).take (padn (numAt D a))).length = padn (numAt D a) := by simp; omega
    rw [e5] at e4
    have e6 : be 4 (numAt D a) = (D.drop a).take 4 := be_val (bts_take (bts_drop hb a) 4) (by simp; omega)
    unfold encB
    rw [hl, e6, List.append_assoc, List.append_assoc, ← e4, ← e3, ← e2, ← e1]
  · rw [if_neg h4] at h; cases h

theorem numAt_enc {D r : List Int} {a n : Nat} (h : D.drop a = be 4 n ++ r) (hn : n < 4294967296) : numAt D a = n := by
  unfold numAt
  rw [h, List.take_left' (by simp), val_be hn]

theorem drop_more {D x y : List Int} {a : Nat} (h : D.drop a = x ++ y) : D.drop (a + x.length) = y := by
  rw [← List.drop_drop, h, List.drop_left]

theorem drop_len {D x : List Int} {a : Nat} (h : D.drop a = x) (ha : a ≤ D.length) : D.length = a + x.length := by
  have := congrArg List.length h
  simp at this
  omega

theorem opq_enc {M : Int} {D l r : List Int} {a : Nat} (h : D.drop a = encB l ++ r) (ha : a ≤ D.length) (hl : l.length < 4294967296) (hM : (l.length : Int) ≤ M) :
    opq M D a = 0 ∧ numAt D a = l.length ∧ (D.drop (a + 4)).take l.length = l := by
  have hlen := drop_len h ha
  rw [List.length_append, encB_length] at hlen
  have hn : numAt D a = l.length := numAt_enc (r := (l ++ List.replicate (padn l.length) 0) ++ r) (by rw [h, encB, List.append_assoc]) hl
  have h4 : D.drop (a + 4) = l ++ (List.replicate (padn l.length) 0 ++ r) := by
    have := drop_more (D := D) (a := a) (x := be 4 l.length) (y := l ++ (List.replicate (padn l.length) 0 ++ r)) (by rw [h, encB]; simp)
    rwa [be_length] at this
  have h5 : D.drop (a + 4 + l.length) = List.replicate (padn l.length) 0 ++ r := drop_more h4
  refine ⟨?_, hn, by rw [h4, List.take_left]⟩
  unfold opq
  rw [hn, if_neg (by omega), if_neg (by omega), if_neg (by omega), h5, List.take_left' (by simp), if_pos (rep_zeros _)]

/-! Strings -/

def ofS (t : List UInt8) : List Int := t.map fun b => (b.toNat : Int)
def toS (l : List Int) : List UInt8 := l.map fun (n : Int) => UInt8.ofNat n.toNat

theorem ofS_bts (t : List UInt8) : Bts (ofS t) := fun x hx => by
  obtain ⟨b, _, rfl⟩ := List.mem_map.mp hx
  have := b.toNat_lt
  omega

theorem toS_ofS (t : List UInt8) : toS (ofS t) = t := by
  unfold toS ofS
  rw [List.map_map]
  conv => rhs; rw [← List.map_id t]
  refine List.map_congr_left fun b _ => ?_
  simp

theorem ofS_toS {l : List Int} (h : Bts l) : ofS (toS l) = l := by
  unfold toS ofS
  rw [List.map_map]
  conv => rhs; rw [← List.map_id l]
  refine List.map_congr_left fun b hb => ?_
  have := h b hb
  simp only [Function.comp, id, UInt8.toNat_ofNat']
  omega

@[simp] theorem ofS_length (t : List UInt8) : (ofS t).length = t.length := by simp [ofS]
@[simp] theorem toS_length (t : List Int) : (toS t).length = t.length := by simp [toS]

def encT (t : List UInt8) : List Int := encB (ofS t)
theorem encT_length (t : List UInt8) : (encT t).length = 4 + t.length + padn t.length := by simp [encT, encB_length]
theorem encT_bts (t : List UInt8) : Bts (encT t) := encB_bts (ofS_bts t)

theorem text_ok {N a : Nat} {M p : Int} {D : List Int} (hb : Bts D) (ha : a ≤ D.length) (hD : D.length < 1000000) (hN : 8 < N) :
    (opq M D a ≠ 0 ∧ xdr_Reader_Text N (M, (a : Int), 0, p, D) = some ([], (a : Int), opq M D a, (a : Int), D)) ∨
    (∃ t : List UInt8, (t.length : Int) ≤ M ∧ a + (encT t).length ≤ D.length ∧ D.drop a = encT t ++ D.drop (a + (encT t).length) ∧ xdr_Reader_Text N (M, (a : Int), 0, p, D) = some (t, ((a + (encT t).length : Nat) : Int), 0, p, D)) := by
  unfold xdr_Reader_Text
  dsimp only
  rw [opaque_ok hb ha hD hN]
  by_cases h : opq M D a = 0
  · obtain ⟨h1, h2, h3, h4⟩ := opq_good hb h
    have hbt : Bts ((D.drop (a + 4)).take (numAt D a)) := bts_take (bts_drop hb _) _
    refine .inr ⟨toS ((D.drop (a + 4)).take (numAt D a)), by rw [toS_length, h3]; exact h2, ?_, ?_, ?_⟩
    · rw [encT_length, toS_length, h3]; omega
    · rw [encT_length, toS_length, h3, encT, ofS_toS hbt, show a + (4 + numAt D a + padn (numAt D a)) = a + 4 + numAt D a + padn (numAt D a) from by omega]
      exact h4
    · rw [if_pos h, Option.bind_some, encT_length, toS_length, h3, show a + (4 + numAt D a + padn (numAt D a)) = a + 4 + numAt D a + padn (numAt D a) from by omega]
      rfl
  · exact .inl ⟨h, by rw [if_neg h]; rfl⟩

theorem text_enc {N a : Nat} {M p : Int} {D r : List Int} {t : List UInt8} (hb : Bts D) (ha : a ≤ D.length) (hD : D.length < 1000000) (hN : 8 < N) (h : D.drop a = encT t ++ r) (hM : (t.length : Int) ≤ M) :
    xdr_Reader_Text N (M, (a : Int), 0, p, D) = some (t, ((a + (encT t).length : Nat) : Int), 0, p, D) := by
  have hlen := drop_len h ha
  rw [List.length_append, encT_length] at hlen
  obtain ⟨h1, h2, h3⟩ := opq_enc (l := ofS t) (M := M) h ha (by simp; omega) (by simpa using hM)
  unfold xdr_Reader_Text
  dsimp only
  rw [opaque_ok hb ha hD hN, if_pos h1, Option.bind_some, h2, h3, ofS_length, encT_length]
  congr 2
  · exact toS_ofS t
  · simp [Nat.add_assoc]

theorem text_bad {N : Nat} {M w p : Int} {D : List Int} {a : Nat} (hw : w ≠ 0) : xdr_Reader_Text N (M, (a : Int), w, p, D) = some ([], (a : Int), w, p, D) := by
  unfold xdr_Reader_Text
  dsimp only
  rw [opaque_bad (at_ := 0) hw]
  rfl

/-! Truth values -/

def encN (n : Nat) : List Int := be 4 n
@[simp] theorem encN_length (n : Nat) : (encN n).length = 4 := be_length 4 n

theorem num_good {D : List Int} {a : Nat} (hb : Bts D) (h : ¬ D.length < a + 4) : D.drop a = encN (numAt D a) ++ D.drop (a + 4) := by
  unfold encN numAt
  rw [be_val (bts_take (bts_drop hb a) 4) (by simp; omega)]
  exact drop_take a 4

end Go.Rf.W.Pure
