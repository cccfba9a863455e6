/-
  Package xdr: what a reader reads.
-/
import Derived.Test.YtngehbaakpkoiaaPlRpcOct
set_option linter.unusedVariables false
set_option maxRecDepth 10000
namespace Go.Rf.W.Pure
open Go Go.Rf Go.Rf.W

def Bts (l : List Int) : Prop := ∀ x ∈ l, 0 ≤ x ∧ x < 256

theorem clone_ok {l : List Int} (h : l.length < 1000000) : slices_Clone_byte_byte l = some l := by
  unfold slices_Clone_byte_byte
  rw [fits1 h, cond_true]
  by_cases e : l.length = 0
  · have : l = [] := List.eq_nil_of_length_eq_zero e
    subst this
    exact agreeC_same
  · rw [deF e]
    rfl

theorem clone1_ok {l : List Int} (h : l.length < 1000000) : slices_Clone_byte_byte_v1 l = some l := by
  unfold slices_Clone_byte_byte_v1
  rw [fits1 h, cond_true]
  by_cases e : l.length = 0
  · have : l = [] := List.eq_nil_of_length_eq_zero e
    subst this
    exact agreeC_same
  · rw [deF e]
    rfl

theorem fails_ok (w s at_ p : Int) (D : List Int) : xdr_Reader_fails (w, s, at_, 0, p, D) = some (s, w, s, D) := rfl

theorem take_ok {n a : Nat} {s p : Int} {D : List Int} (ha : a ≤ D.length) (hn : n < 8000000000) (hD : D.length < 1000000) :
    xdr_Reader_take ((n : Int), s, (a : Int), 0, p, D) = if D.length < a + n then some (.inl (s, 3, s, D)) else some (.inr (a, n, ((a + n : Nat) : Int), 0, p, D)) := by
  unfold xdr_Reader_take
  dsimp only
  rw [show xdr_Reader_bad ((a : Int), 0, p, D) = some (false, (a : Int), 0, p, D) from rfl, Option.bind_some]
  dsimp only
  rw [cond_false, fails_ok, wrapF_i64 (by omega) (by omega), wrapF_i64 (by omega) (by omega)]
  by_cases h : D.length < a + n
  · rw [deT (by omega), cond_true, if_pos h]
    rfl
  · rw [deF (by omega), cond_false, if_neg h, deT (p := (0 : Int) ≤ (a : Int)) (by omega), deT (p := (a : Int) ≤ (a : Int) + (n : Int)) (by omega), deT (p := (a : Int) + (n : Int) ≤ ((D.length : Nat) : Int)) (by omega)]
    simp only [Bool.and_self, cond_true]
    congr 3
    have : ((a : Int) + (n : Int)) = ((a + n : Nat) : Int) := by omega
    rw [this, Int.toNat_natCast, Int.toNat_natCast]
    have e : a + n - a = n := by omega
    rw [e]

theorem bts_take {D : List Int} (h : Bts D) (n : Nat) : Bts (D.take n) := fun x hx => h x (List.mem_of_mem_take hx)
theorem bts_drop {D : List Int} (h : Bts D) (n : Nat) : Bts (D.drop n) := fun x hx => h x (List.mem_of_mem_drop hx)

/-- The number that lies at a place. -/
def numAt (D : List Int) (a : Nat) : Nat := val ((D.drop a).take 4)

theorem numAt_lt {D : List Int} (hb : Bts D) (a : Nat) : numAt D a < 4294967296 :=
  val_lt (k := 4) (bts_take (bts_drop hb a) 4) (by simp; omega)

theorem uint_ok {N a : Nat} {p : Int} {D : List Int} (hb : Bts D) (ha : a ≤ D.length) (hD : D.length < 1000000) (hN : 8 < N) :
    xdr_Reader_Uint N ((a : Int), 0, p, D) = if D.length < a + 4 then some (0, (a : Int), 3, (a : Int), D) else some (((numAt D a : Nat) : Int), ((a + 4 : Nat) : Int), 0, p, D) := by
  unfold xdr_Reader_Uint
  dsimp only
  rw [show xdr_Reader_At ((a : Int), 0, p, D) = some ((a : Int), (a : Int), 0, p, D) from rfl, Option.bind_some]
  dsimp only
  have := take_ok (n := 4) (s := (a : Int)) (p := p) ha (by omega) hD
  rw [show ((4 : Nat) : Int) = 4 from rfl] at this
  rw [this]
  by_cases h : D.length < a + 4
  · rw [if_pos h, if_pos h]
    rfl
  · rw [if_neg h, if_neg h, Option.bind_some]
    dsimp only
    rw [Nat.zero_add, deF (p := 4 = 0) (by omega), agreeC_known, cond_false, deT (p := (4 : Int) ≤ ((4 : Nat) : Int)) (by omega), cond_true, deT (p := a + 4 ≤ D.length) (by omega), cond_true, cond_true, get_ok (bts_take (bts_drop hb a) 4) (by simp; omega) hN, Option.bind_some]
    have := numAt_lt hb a
    rw [show val (List.take 4 (List.drop a D)) = numAt D a from rfl, wrapF_u32 (by omega) (by omega)]

theorem uint_bad {N a : Nat} {w p : Int} {D : List Int} (hw : w ≠ 0) : xdr_Reader_Uint N ((a : Int), w, p, D) = some (0, (a : Int), w, p, D) := by
  unfold xdr_Reader_Uint
  dsimp only
  rw [show xdr_Reader_At ((a : Int), w, p, D) = some ((a : Int), (a : Int), w, p, D) from rfl, Option.bind_some]
  dsimp only
  unfold xdr_Reader_take xdr_Reader_bad
  dsimp only
  rw [Option.bind_some, deF hw]
  rfl

theorem length_ok {N a : Nat} {M p : Int} {D : List Int} (hb : Bts D) (ha : a ≤ D.length) (hD : D.length < 1000000) (hN : 8 < N) :
    xdr_Reader_length N (M, (a : Int), 0, p, D) = if D.length < a + 4 then some (0, (a : Int), 3, (a : Int), D) else if M < (numAt D a : Int) then some (0, (a : Int), 1, (a : Int), D) else some (((numAt D a : Nat) : Int), ((a + 4 : Nat) : Int), 0, p, D) := by
  unfold xdr_Reader_length
  dsimp only
  rw [show xdr_Reader_At ((a : Int), 0, p, D) = some ((a : Int), (a : Int), 0, p, D) from rfl, Option.bind_some]
  dsimp only
  rw [uint_ok hb ha hD hN]
  by_cases h : D.length < a + 4
  · rw [if_pos h, if_pos h]
    rfl
  · rw [if_neg h, if_neg h, Option.bind_some]
    dsimp only
    have := numAt_lt hb a
    rw [wrapF_i64 (by omega) (by omega)]
    rw [show xdr_Reader_bad (((a + 4 : Nat) : Int), 0, p, D) = some (false, ((a + 4 : Nat) : Int), 0, p, D) from rfl, Option.bind_some]
    dsimp only
    rw [Bool.not_false, cond_true, Option.bind_some]
    dsimp only
    by_cases h2 : M < (numAt D a : Int)
    · rw [deT h2, cond_true, if_pos h2]
      rfl
    · rw [deF h2, cond_false, if_neg h2]

def padn (n : Nat) : Nat := (4 - n % 4) % 4
theorem padn_lt (n : Nat) : padn n < 4 := Nat.mod_lt _ (by decide)
theorem padding_ok {n : Nat} (hn : n < 4294967296) : xdr_padding (n : Int) = some ((padn n : Nat) : Int) := by
  unfold xdr_padding padn
  have e : Int.tmod (n : Int) 4 = ((n % 4 : Nat) : Int) := rfl
  rw [e, wrapF_i64 (by omega) (by omega)]
  have e2 : (4 : Int) - ((n % 4 : Nat) : Int) = ((4 - n % 4 : Nat) : Int) := by omega
  rw [e2]
  rfl

def zeros (l : List Int) : Bool := l.all fun x => decide (x = 0)

theorem fixed_loop {N : Nat} {n s at0 p : Int} {a len off m : Nat} {D : List Int} (hm : off + m ≤ D.length) (hD : D.length < 1000000) : ∀ (d f i : Nat), i + d = m → d < f →
    loopF (xdr_Reader_fixed_b0 N) f (n, s, a, len, off, m, (m : Int), (i : Int), at0, 0, p, D) = some (if zeros ((D.drop (off + i)).take d) then .inr (at0, 0, p, D) else .inl (s, 11, s, D)) := by
  intro d
  induction d with
  | zero =>
    intro f i hi hf
    obtain ⟨f, rfl⟩ : ∃ g, f = g + 1 := ⟨f - 1, by omega⟩
    show xdr_Reader_fixed_b0 N _ _ = _
    unfold xdr_Reader_fixed_b0
    dsimp only
    rw [deF (by omega), cond_false]
    rfl
  | succ d ih =>
    intro f i hi hf
    obtain ⟨f, rfl⟩ : ∃ g, f = g + 1 := ⟨f - 1, by omega⟩
    have hlt : off + i < D.length := by omega
    have hg : List.getD D (i + off) (EK.dflt (.int .u8)) = D[off + i] := by simp [List.getD, Nat.add_comm, hlt]
    show xdr_Reader_fixed_b0 N (loopF (xdr_Reader_fixed_b0 N) f) _ = _
    generalize hnx : loopF (xdr_Reader_fixed_b0 N) f = nx
    unfold xdr_Reader_fixed_b0
    dsimp only
    rw [deT (p := (i : Int) < (m : Int)) (by omega), cond_true, deT (p := (0 : Int) ≤ (i : Int)) (by omega), Bool.and_self, cond_true, Int.toNat_natCast, deT (p := i + off < D.length) (by omega), cond_true, hg, fails_ok, Option.bind_some]
    have e1 : ((i : Int) + 1) = ((i + 1 : Nat) : Int) := by omega
    rw [wrapF_i64 (by omega) (by omega), e1, ← hnx, ih f (i + 1) (by omega) (by omega), List.drop_eq_getElem_cons hlt, List.take_succ_cons]
    by_cases hz : D[off + i] = 0
    · rw [deT hz, Bool.not_true, cond_false]
      simp only [zeros, List.all_cons, deT hz, Bool.true_and]
      rfl
    · rw [deF hz, Bool.not_false, cond_true]
      simp only [zeros, List.all_cons, deF hz, Bool.false_and]
      rfl

theorem fixed_ok {N n at_ : Nat} {s p : Int} {D : List Int} (hat : at_ ≤ D.length) (hD : D.length < 1000000) (hn : n < 4294967296) (hN : 8 < N) :
    xdr_Reader_fixed N ((n : Int), s, (at_ : Int), 0, p, D) = some (if D.length < at_ + n + padn n ∧ n ≠ 0 then (s, 3, s, D, []) else if zeros ((D.drop (at_ + n)).take (padn n)) then (((at_ + n + padn n : Nat) : Int), 0, p, D, (D.drop at_).take n) else (s, 11, s, D, [])) := by
  unfold xdr_Reader_fixed
  dsimp only
  rw [show xdr_Reader_bad ((at_ : Int), 0, p, D) = some (false, (at_ : Int), 0, p, D) from rfl, Option.bind_some]
  dsimp only
  rw [cond_false, Option.bind_some]
  dsimp only
  have hp := padn_lt n
  by_cases h0 : n = 0
  · subst h0
    rw [deT (by omega), cond_true, if_neg (by simp)]
    simp [padn, zeros]
  rw [deF (by omega), cond_false]
  by_cases h1 : D.length < n
  · rw [deT (by omega), cond_true, fails_ok, if_pos ⟨by omega, h0⟩]
    rfl
  rw [deF (by omega), cond_false, padding_ok hn, Option.bind_some, wrapF_i64 (by omega) (by omega), show ((n : Int) + ((padn n : Nat) : Int)) = ((n + padn n : Nat) : Int) from by omega, take_ok hat (by omega) hD]
  by_cases h2 : D.length < at_ + n + padn n
  · rw [if_pos (by omega), if_pos ⟨h2, h0⟩]
    rfl
  rw [if_neg (by omega), if_neg (by omega), Option.bind_some]
  dsimp only
  rw [deF (p := n + padn n = 0) (by omega), agreeC_known, cond_false, deT (p := (0 : Int) ≤ (n : Int)) (by omega), deT (p := (n : Int) ≤ ((n + padn n : Nat) : Int)) (by omega), deT (p := ((n + padn n : Nat) : Int) ≤ ((n + padn n : Nat) : Int)) (by omega)]
  simp only [Bool.and_self, cond_true]
  rw [Int.toNat_natCast, show n + padn n - n = padn n from by omega, show n + at_ = at_ + n from by omega]
  unfold xdr_Reader_fixed_l0
  have hl := fixed_loop (N := N) (n := (n : Int)) (s := s) (at0 := ((at_ + (n + padn n) : Nat) : Int)) (p := p) (a := at_) (len := n + padn n) (off := at_ + n) (m := padn n) (D := D) (by omega) hD (padn n) N 0 (by omega) (by omega)
  rw [show (((0 : Nat)) : Int) = 0 from rfl, Nat.add_zero] at hl
  rw [hl, Option.bind_some]
  by_cases hz : zeros ((D.drop (at_ + n)).take (padn n)) = true
  · rw [if_pos hz, if_pos hz]
    dsimp only
    rw [Nat.zero_add, deT (p := at_ + n ≤ D.length) (by omega), cond_true, cond_true, clone_ok (by simp; omega), Option.bind_some]
    simp [Nat.add_assoc]
  · rw [if_neg hz, if_neg hz]

theorem fixed_bad {N : Nat} {n s at_ w p : Int} {D : List Int} (hw : w ≠ 0) : xdr_Reader_fixed N (n, s, at_, w, p, D) = some (at_, w, p, D, []) := by
  unfold xdr_Reader_fixed xdr_Reader_bad
  dsimp only
  rw [Option.bind_some, deF hw]
  rfl

/-- What is wrong with a row of bytes at a place (0: nothing). -/
def opq (M : Int) (D : List Int) (a : Nat) : Int :=
  if D.length < a + 4 then 3 else if M < (numAt D a : Int) then 1 else if D.length < a + 4 + numAt D a + padn (numAt D a) then 3 else if zeros ((D.drop (a + 4 + numAt D a)).take (padn (numAt D a))) then 0 else 11

theorem opaque_ok {N a : Nat} {M p : Int} {D : List Int} (hb : Bts D) (ha : a ≤ D.length) (hD : D.length < 1000000) (hN : 8 < N) :
    xdr_Reader_Opaque N (M, (a : Int), 0, p, D) = some (if opq M D a = 0 then (((a + 4 + numAt D a + padn (numAt D a) : Nat) : Int), 0, p, D, (D.drop (a + 4)).take (numAt D a)) else ((a : Int), opq M D a, (a : Int), D, [])) := by
  unfold xdr_Reader_Opaque
  dsimp only
  rw [show xdr_Reader_At ((a : Int), 0, p, D) = some ((a : Int), (a : Int), 0, p, D) from rfl, Option.bind_some]
  dsimp only
  rw [length_ok hb ha hD hN]
  have hn := numAt_lt hb a
  unfold opq
  by_cases h : D.length < a + 4
  · rw [if_pos h, if_pos h, Option.bind_some]
    dsimp only
    rw [fixed_bad (by decide), if_neg (by decide)]
    rfl
  rw [if_neg h, if_neg h]
  by_cases h2 : M < (numAt D a : Int)
  · rw [if_pos h2, if_pos h2, Option.bind_some]
    dsimp only
    rw [fixed_bad (by decide), if_neg (by decide)]
    rfl
  rw [if_neg h2, if_neg h2, Option.bind_some]
  dsimp only
  rw [fixed_ok (by omega) hD hn hN, Option.bind_some]
  by_cases h3 : D.length < a + 4 + numAt D a + padn (numAt D a)
  · have h4 : numAt D a ≠ 0 := fun e => by rw [e] at h3; simp [padn] at h3; omega
    rw [if_pos ⟨h3, h4⟩, if_pos h3, if_neg (by decide)]
  rw [if_neg (fun x => h3 x.1), if_neg h3]
  by_cases hz : zeros ((D.drop (a + 4 + numAt D a)).take (padn (numAt D a))) = true
  · rw [if_pos hz, if_pos hz, if_pos rfl]
  · rw [if_neg hz, if_neg hz, if_neg (by decide)]

theorem opaque_bad {N : Nat} {M at_ w p : Int} {D : List Int} {a : Nat} (hw : w ≠ 0) : xdr_Reader_Opaque N (M, (a : Int), w, p, D) = some ((a : Int), w, p, D, []) := by
  unfold xdr_Reader_Opaque xdr_Reader_length
  dsimp only
  rw [show xdr_Reader_At ((a : Int), w, p, D) = some ((a : Int), (a : Int), w, p, D) from rfl, Option.bind_some]
  dsimp only
  rw [show xdr_Reader_At ((a : Int), w, p, D) = some ((a : Int), (a : Int), w, p, D) from rfl, Option.bind_some]
  dsimp only
  rw [uint_bad hw, Option.bind_some]
  dsimp only
  unfold xdr_Reader_bad
  rw [Option.bind_some]
  dsimp only
  rw [deF hw]
  simp only [Bool.not_false, Bool.not_true, cond_true, cond_false, Option.bind_some]
  rw [fixed_bad hw]
  rfl

end Go.Rf.W.Pure
