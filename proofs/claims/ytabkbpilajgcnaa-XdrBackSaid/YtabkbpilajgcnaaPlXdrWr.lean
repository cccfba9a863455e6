/-
  Package xdr: what a writer writes.
-/
import Derived.Test.YtabkbpilajgcnaaPlXdrEnc
set_option linter.unusedVariables false
set_option maxRecDepth 10000
namespace Go.Rf.W.Pure
open Go Go.Rf Go.Rf.W

theorem wuint0_ok {N n : Nat} (hn : n < 4294967296) (hN : 8 < N) : xdr_Writer_Uint N ((n : Int), 0) = some (0, encN n) := by
  unfold xdr_Writer_Uint xdr_Writer_bad
  dsimp only
  rw [Option.bind_some, wrapF_u64 (by omega) (by omega)]
  have := put0_ok (N := N) (n := n) (size := 4) (by omega) (by omega)
  rw [show ((4 : Nat) : Int) = 4 from rfl] at this
  rw [this]
  rfl

theorem wuint_ok {N n : Nat} {b : List Int} (hn : n < 18446744073709551616) (hb : b.length < 900000) (hN : 8 < N) : xdr_Writer_Uint_v1 N ((n : Int), 0, b) = some (0, b ++ encN n) := by
  unfold xdr_Writer_Uint_v1 xdr_Writer_bad_v1
  dsimp only
  rw [Option.bind_some, wrapF_u64 (by omega) (by omega)]
  have := put1_ok (N := N) (n := n) (size := 4) (b := b) (by omega) (by omega)
  rw [show ((4 : Nat) : Int) = 4 from rfl] at this
  dsimp only
  rw [this]
  rfl

theorem wfixed_loop {N m : Nat} (hm : m < 4) : ∀ (d f i : Nat) (b : List Int), i + d = m → d < f → b.length + d < 900000 →
    loopF (xdr_Writer_Fixed_b0 N) f ((m : Int), (i : Int), b) = some (b ++ List.replicate d 0) := by
  intro d
  induction d with
  | zero =>
    intro f i b hi hf hb
    obtain ⟨f, rfl⟩ : ∃ g, f = g + 1 := ⟨f - 1, by omega⟩
    show xdr_Writer_Fixed_b0 N _ _ = _
    unfold xdr_Writer_Fixed_b0
    dsimp only
    rw [deF (by omega), cond_false]
    simp
  | succ d ih =>
    intro f i b hi hf hb
    obtain ⟨f, rfl⟩ : ∃ g, f = g + 1 := ⟨f - 1, by omega⟩
    show xdr_Writer_Fixed_b0 N (loopF (xdr_Writer_Fixed_b0 N) f) _ = _
    generalize hnx : loopF (xdr_Writer_Fixed_b0 N) f = nx
    unfold xdr_Writer_Fixed_b0
    dsimp only
    have e1 : ((i : Int) + 1) = ((i + 1 : Nat) : Int) := by omega
    rw [deT (p := (i : Int) < (m : Int)) (by omega), cond_true, show decide (1 ≤ [(0 : Int)].length) = true from rfl, show List.take 1 (List.drop 0 [(0 : Int)]) = [0] from rfl, fits1 (by simp; omega), Bool.and_self, cond_true, wrapF_i64 (by omega) (by omega), e1, ← hnx]
    rw [ih f (i + 1) (b ++ [0]) (by omega) (by omega) (by simp; omega), List.replicate_succ]
    simp

theorem wfixed_ok {N : Nat} {l b : List Int} (hl : l.length + b.length < 800000) (hN : 8 < N) : xdr_Writer_Fixed N (l, 0, b) = some (0, b ++ (l ++ List.replicate (padn l.length) 0)) := by
  unfold xdr_Writer_Fixed xdr_Writer_bad_v1
  dsimp only
  rw [Option.bind_some]
  dsimp only
  have hp := padn_lt l.length
  have := wfixed_loop (N := N) hp (padn l.length) N 0 (b ++ l) (by omega) (by omega) (by simp; omega)
  rw [show decide ((0 : Int) = 0) = true from rfl, Bool.not_true, cond_false, fits1 (by omega), cond_true, padding_ok (by omega), Option.bind_some]
  unfold xdr_Writer_Fixed_l0
  rw [show (((0 : Nat)) : Int) = 0 from rfl] at this
  rw [this, Option.bind_some, List.append_assoc]

theorem wopaque_ok {N : Nat} {l b : List Int} {M : Int} (hl : l.length + b.length < 700000) (hM : (l.length : Int) ≤ M) (hN : 8 < N) : xdr_Writer_Opaque N (l, M, 0, b) = some (0, b ++ encB l) := by
  unfold xdr_Writer_Opaque xdr_Writer_fits xdr_Writer_bad_v1
  dsimp only
  rw [Option.bind_some]
  dsimp only
  rw [show decide ((0 : Int) = 0) = true from rfl, Bool.not_true, cond_false, deF (p := M < (l.length : Int)) (by omega), cond_false, Option.bind_some, deT hM, Option.bind_some]
  dsimp only
  rw [cond_true, wrapF_u32 (by omega) (by omega), wuint_ok (by omega) (by omega) hN, Option.bind_some]
  dsimp only
  rw [wfixed_ok (by simp; omega) hN]
  simp only [Option.bind_some, encB, encN, List.append_assoc]

theorem wopaque0_ok {N : Nat} {l : List Int} {M : Int} (hl : l.length < 700000) (hM : (l.length : Int) ≤ M) (hN : 8 < N) : xdr_Writer_Opaque_v3 N (l, M, 0) = some (0, encB l) := by
  unfold xdr_Writer_Opaque_v3 xdr_Writer_fits_v2 xdr_Writer_bad
  dsimp only
  rw [Option.bind_some]
  dsimp only
  rw [show decide ((0 : Int) = 0) = true from rfl, Bool.not_true, cond_false, deF (p := M < (l.length : Int)) (by omega), cond_false, Option.bind_some, deT hM, Option.bind_some]
  dsimp only
  rw [cond_true, wrapF_u32 (by omega) (by omega), wuint0_ok (by omega) hN, Option.bind_some]
  dsimp only
  rw [wfixed_ok (by simp; omega) hN]
  simp only [Option.bind_some, encB, encN]

theorem wtext_ok {N : Nat} {t : List UInt8} {b : List Int} {M : Int} (hl : t.length + b.length < 700000) (hM : (t.length : Int) ≤ M) (hN : 8 < N) : xdr_Writer_Text N (t, M, 0, b) = some (0, b ++ encT t) := by
  unfold xdr_Writer_Text
  dsimp only
  rw [show List.map (fun (b : UInt8) => (b.toNat : Int)) t = ofS t from rfl, wopaque_ok (by simpa using hl) (by simpa using hM) hN]
  rfl

theorem wtext0_ok {N : Nat} {t : List UInt8} {M : Int} (hl : t.length < 700000) (hM : (t.length : Int) ≤ M) (hN : 8 < N) : xdr_Writer_Text_v2 N (t, M, 0) = some (0, encT t) := by
  unfold xdr_Writer_Text_v2
  dsimp only
  rw [show List.map (fun (b : UInt8) => (b.toNat : Int)) t = ofS t from rfl, wopaque0_ok (by simpa using hl) (by simpa using hM) hN]
  rfl

theorem wbool_ok {N : Nat} {v : Bool} {b : List Int} (hb : b.length < 900000) (hN : 8 < N) : xdr_Writer_Bool_v2 N (v, 0, b) = some (0, b ++ encN v.toNat) := by
  unfold xdr_Writer_Bool_v2
  cases v
  · have := wuint_ok (N := N) (n := 0) (b := b) (by omega) hb hN
    rw [show (((0 : Nat)) : Int) = 0 from rfl] at this
    dsimp only
    rw [cond_false, this]
    rfl
  · have := wuint_ok (N := N) (n := 1) (b := b) (by omega) hb hN
    rw [show (((1 : Nat)) : Int) = 1 from rfl] at this
    dsimp only
    rw [cond_true, this]
    rfl

theorem wbool0_ok {N : Nat} {v : Bool} (hN : 8 < N) : xdr_Writer_Bool_v1 N (v, 0) = some (0, encN v.toNat) := by
  unfold xdr_Writer_Bool_v1
  cases v
  · have := wuint0_ok (N := N) (n := 0) (by omega) hN
    rw [show (((0 : Nat)) : Int) = 0 from rfl] at this
    dsimp only
    rw [cond_false, this]
    rfl
  · have := wuint0_ok (N := N) (n := 1) (by omega) hN
    rw [show (((1 : Nat)) : Int) = 1 from rfl] at this
    dsimp only
    rw [cond_true, this]
    rfl

/-! Lists and chains of strings -/

def encTs (ts : List (List UInt8)) : List Int := (ts.map encT).flatten
def encC (ts : List (List UInt8)) : List Int := (ts.map fun t => encN 1 ++ encT t).flatten

theorem puttext_ok {N : Nat} {t : List UInt8} {b : List Int} (ht : t.length ≤ 7) (hl : b.length < 600000) (hN : 8 < N) : granarylaw01_putText N (t, 0, b) = some (0, b ++ encT t) := by
  unfold granarylaw01_putText
  dsimp only
  rw [wtext_ok (by omega) (by omega) hN]
  rfl

theorem encT_le {t : List UInt8} (h : t.length ≤ 7) : (encT t).length ≤ 14 := by
  have := padn_lt t.length
  rw [encT_length]; omega

theorem wlist_loop {N : Nat} (ts : List (List UInt8)) (h7 : ∀ t ∈ ts, t.length ≤ 7) (hts : ts.length < 30000) (hN : 8 < N) : ∀ (d f i : Nat) (b : List Int), i + d = ts.length → d < f → b.length + 14 * d < 600000 →
    loopF (xdr_PutList_string_b0 N) f (ts, (ts.length : Int), (i : Int), 0, b) = some (0, b ++ encTs (ts.drop i)) := by
  intro d
  induction d with
  | zero =>
    intro f i b hi hf hb
    obtain ⟨f, rfl⟩ : ∃ g, f = g + 1 := ⟨f - 1, by omega⟩
    show xdr_PutList_string_b0 N _ _ = _
    unfold xdr_PutList_string_b0
    dsimp only
    rw [deF (by omega), cond_false, List.drop_of_length_le (by omega)]
    simp [encTs]
  | succ d ih =>
    intro f i b hi hf hb
    obtain ⟨f, rfl⟩ : ∃ g, f = g + 1 := ⟨f - 1, by omega⟩
    have hlt : i < ts.length := by omega
    have hg : List.getD ts i (EK.dflt .str) = ts[i] := by simp [List.getD, hlt]
    have ht := h7 ts[i] (List.getElem_mem hlt)
    have hl := encT_le ht
    show xdr_PutList_string_b0 N (loopF (xdr_PutList_string_b0 N) f) _ = _
    generalize hnx : loopF (xdr_PutList_string_b0 N) f = nx
    unfold xdr_PutList_string_b0
    dsimp only
    have e1 : ((i : Int) + 1) = ((i + 1 : Nat) : Int) := by omega
    rw [deT (p := (i : Int) < (ts.length : Int)) (by omega), cond_true, deT (p := (0 : Int) ≤ (i : Int)) (by omega), Bool.and_self, cond_true, Int.toNat_natCast, hg, puttext_ok ht (by omega) hN, Option.bind_some]
    dsimp only
    rw [wrapF_i64 (by omega) (by omega), e1, ← hnx, ih f (i + 1) _ (by omega) (by omega) (by simp; omega), List.drop_eq_getElem_cons hlt]
    simp only [encTs, List.map_cons, List.flatten_cons, List.append_assoc]

theorem wlist_ok {N : Nat} {ts : List (List UInt8)} (h7 : ∀ t ∈ ts, t.length ≤ 7) {M : Int} (hM : (ts.length : Int) ≤ M) (hl : ts.length < 30000) (hN : ts.length + 8 < N) : xdr_PutList_string N (ts, M, 0) = some (0, encN ts.length ++ encTs ts) := by
  unfold xdr_PutList_string xdr_Writer_fits_v2 xdr_Writer_bad
  dsimp only
  rw [Option.bind_some]
  dsimp only
  rw [show decide ((0 : Int) = 0) = true from rfl, Bool.not_true, cond_false, deF (p := M < (ts.length : Int)) (by omega), cond_false, Option.bind_some, deT hM, Option.bind_some]
  dsimp only
  rw [Bool.not_true, cond_false, wrapF_u32 (by omega) (by omega), wuint0_ok (by omega) (by omega), Option.bind_some]
  unfold xdr_PutList_string_l0
  have := wlist_loop (N := N) ts h7 hl (by omega) ts.length N 0 (encN ts.length) (by omega) (by omega) (by simp; omega)
  rw [show (((0 : Nat)) : Int) = 0 from rfl, List.drop_zero] at this
  dsimp only
  rw [this]
  rfl

theorem wchain_loop {N : Nat} (ts : List (List UInt8)) (h7 : ∀ t ∈ ts, t.length ≤ 7) (hts : ts.length < 30000) (hN : 8 < N) : ∀ (d f i : Nat) (b : List Int), i + d = ts.length → d < f → b.length + 18 * d < 600000 →
    loopF (xdr_PutChain_string_v1_b0 N) f (ts, (ts.length : Int), (i : Int), 0, b) = some (0, b ++ encC (ts.drop i)) := by
  intro d
  induction d with
  | zero =>
    intro f i b hi hf hb
    obtain ⟨f, rfl⟩ : ∃ g, f = g + 1 := ⟨f - 1, by omega⟩
    show xdr_PutChain_string_v1_b0 N _ _ = _
    unfold xdr_PutChain_string_v1_b0
    dsimp only
    rw [deF (by omega), cond_false, List.drop_of_length_le (by omega)]
    simp [encC]
  | succ d ih =>
    intro f i b hi hf hb
    obtain ⟨f, rfl⟩ : ∃ g, f = g + 1 := ⟨f - 1, by omega⟩
    have hlt : i < ts.length := by omega
    have hg : List.getD ts i (EK.dflt .str) = ts[i] := by simp [List.getD, hlt]
    have ht := h7 ts[i] (List.getElem_mem hlt)
    have hl := encT_le ht
    show xdr_PutChain_string_v1_b0 N (loopF (xdr_PutChain_string_v1_b0 N) f) _ = _
    generalize hnx : loopF (xdr_PutChain_string_v1_b0 N) f = nx
    unfold xdr_PutChain_string_v1_b0
    dsimp only
    have e1 : ((i : Int) + 1) = ((i + 1 : Nat) : Int) := by omega
    rw [deT (p := (i : Int) < (ts.length : Int)) (by omega), cond_true, deT (p := (0 : Int) ≤ (i : Int)) (by omega), Bool.and_self, cond_true, Int.toNat_natCast, hg, wbool_ok (by omega) hN, Option.bind_some]
    dsimp only
    rw [puttext_ok ht (by simp; omega) hN, Option.bind_some]
    dsimp only
    rw [wrapF_i64 (by omega) (by omega), e1, ← hnx, ih f (i + 1) _ (by omega) (by omega) (by simp; omega), List.drop_eq_getElem_cons hlt]
    simp only [encC, List.map_cons, List.flatten_cons, List.append_assoc, Bool.toNat_true]

theorem wchain_ok {N : Nat} {ts : List (List UInt8)} (h7 : ∀ t ∈ ts, t.length ≤ 7) (hl : ts.length < 30000) (hN : ts.length + 8 < N) : xdr_PutChain_string_v1 N (ts, 0) = some (0, encC ts ++ encN 0) := by
  unfold xdr_PutChain_string_v1 xdr_Writer_bad
  dsimp only
  rw [Option.bind_some]
  dsimp only
  rw [show decide ((0 : Int) = 0) = true from rfl, Bool.not_true, cond_false]
  unfold xdr_PutChain_string_v1_l0
  have := wchain_loop (N := N) ts h7 hl (by omega) ts.length N 0 [] (by omega) (by omega) (by simp; omega)
  rw [show (((0 : Nat)) : Int) = 0 from rfl, List.drop_zero] at this
  rw [this, Option.bind_some]
  dsimp only
  have hlen : (encC ts).length < 900000 := by
    have : ∀ l : List (List UInt8), (∀ t ∈ l, t.length ≤ 7) → (encC l).length ≤ 18 * l.length := by
      intro l
      induction l with
      | nil => intro _; simp [encC]
      | cons t l ih =>
        intro h
        have h1 := ih fun t ht => h t (List.mem_cons_of_mem _ ht)
        have h2 := encT_le (h t (List.mem_cons_self ..))
        simp only [encC, List.map_cons, List.flatten_cons, List.length_append, encN_length, List.length_cons] at h1 ⊢
        omega
    have := this ts h7
    omega
  rw [wbool_ok (v := false) (by simpa using hlen) (by omega)]
  simp

end Go.Rf.W.Pure
