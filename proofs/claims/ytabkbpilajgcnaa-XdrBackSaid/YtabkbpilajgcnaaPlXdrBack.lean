/-
  Package xdr: numbers, rows of bytes, lists and chains, written and read back.
-/
import Derived.Test.YtabkbpilajgcnaaPlXdrList
set_option linter.unusedVariables false
set_option maxRecDepth 10000
namespace Go.Rf.W.Pure
open Go Go.Rf Go.Rf.W

theorem wint_ok {N : Nat} {i : Int} {b : List Int} (hb : b.length < 900000) (hN : 8 < N) : xdr_Writer_Int_v1 N (i, 0, b) = some (0, b ++ encN (i % 4294967296).toNat) := by
  unfold xdr_Writer_Int_v1
  dsimp only
  have e : wrapF .u32 i = (((i % 4294967296).toNat : Nat) : Int) := by simp only [wrapF]; omega
  rw [e, wuint_ok (by omega) hb hN]
  rfl

theorem whyper_ok {N n : Nat} {b : List Int} (hb : b.length < 900000) (hN : 8 < N) : xdr_Writer_Hyper_v1 N ((n : Int), 0, b) = some (0, b ++ be 8 n) := by
  unfold xdr_Writer_Hyper_v1 xdr_Writer_bad_v1
  dsimp only
  rw [Option.bind_some]
  have := put1_ok (N := N) (n := n) (size := 8) (b := b) (by omega) (by omega)
  rw [show ((8 : Nat) : Int) = 8 from rfl] at this
  dsimp only
  rw [this]
  rfl

def encF (l : List Int) : List Int := l ++ List.replicate (padn l.length) 0
theorem encF_length (l : List Int) : (encF l).length = l.length + padn l.length := by simp [encF]

theorem wfixed2_ok {N : Nat} {l b : List Int} (hl : l.length + b.length < 800000) (hN : 8 < N) : xdr_Writer_Fixed_v2 N (l, 0, b) = some (0, b ++ encF l) := wfixed_ok hl hN

def encNs (ns : List Nat) : List Int := (ns.map encN).flatten
theorem encNs_length (ns : List Nat) : (encNs ns).length = 4 * ns.length := by
  induction ns with
  | nil => rfl
  | cons n ns ih =>
    simp only [encNs, List.map_cons, List.flatten_cons, List.length_append, List.length_cons, encN_length] at ih ⊢
    omega

theorem putnum_ok {N n : Nat} {b : List Int} (hn : n < 18446744073709551616) (hb : b.length < 900000) (hN : 8 < N) : granarylaw01_putNum N ((n : Int), 0, b) = some (0, b ++ encN n) := by
  unfold granarylaw01_putNum
  dsimp only
  rw [wuint_ok hn hb hN]
  rfl

theorem wnums_loop {N : Nat} (ns : List Nat) (h4 : ∀ n ∈ ns, n < 4294967296) (hns : ns.length < 30000) (hN : 8 < N) : ∀ (d f i : Nat) (b : List Int), i + d = ns.length → d < f → b.length + 4 * d < 600000 →
    loopF (xdr_PutList_uint32_v1_b0 N) f (ns.map Int.ofNat, (ns.length : Int), (i : Int), 0, b) = some (0, b ++ encNs (ns.drop i)) := by
  intro d
  induction d with
  | zero =>
    intro f i b hi hf hb
    obtain ⟨f, rfl⟩ : ∃ g, f = g + 1 := ⟨f - 1, by omega⟩
    show xdr_PutList_uint32_v1_b0 N _ _ = _
    unfold xdr_PutList_uint32_v1_b0
    dsimp only
    rw [deF (by omega), cond_false, List.drop_of_length_le (by omega)]
    simp [encNs]
  | succ d ih =>
    intro f i b hi hf hb
    obtain ⟨f, rfl⟩ : ∃ g, f = g + 1 := ⟨f - 1, by omega⟩
    have hlt : i < ns.length := by omega
    have hg : List.getD (ns.map Int.ofNat) i (EK.dflt (.int .u32)) = ((ns[i] : Nat) : Int) := by simp [List.getD, hlt]
    have ht := h4 ns[i] (List.getElem_mem hlt)
    show xdr_PutList_uint32_v1_b0 N (loopF (xdr_PutList_uint32_v1_b0 N) f) _ = _
    generalize hnx : loopF (xdr_PutList_uint32_v1_b0 N) f = nx
    unfold xdr_PutList_uint32_v1_b0
    dsimp only
    have e1 : ((i : Int) + 1) = ((i + 1 : Nat) : Int) := by omega
    rw [deT (p := (i : Int) < (ns.length : Int)) (by omega), cond_true, deT (p := (0 : Int) ≤ (i : Int)) (by omega), List.length_map, deT (p := (i : Int) < (ns.length : Int)) (by omega), Bool.and_self, cond_true, Int.toNat_natCast, hg, putnum_ok (by omega) (by omega) hN, Option.bind_some]
    dsimp only
    rw [wrapF_i64 (by omega) (by omega), e1, ← hnx, ih f (i + 1) _ (by omega) (by omega) (by simp; omega), List.drop_eq_getElem_cons hlt]
    simp only [encNs, List.map_cons, List.flatten_cons, List.append_assoc]

theorem wnums_ok {N : Nat} {ns : List Nat} {b : List Int} (h4 : ∀ n ∈ ns, n < 4294967296) (hl : ns.length < 30000) (hb : b.length + 4 * ns.length < 500000) (hN : ns.length + 8 < N) : xdr_PutList_uint32_v1 N (ns.map Int.ofNat, (ns.length : Int), 0, b) = some (0, b ++ (encN ns.length ++ encNs ns)) := by
  unfold xdr_PutList_uint32_v1 xdr_Writer_fits xdr_Writer_bad_v1
  dsimp only
  rw [Option.bind_some]
  dsimp only
  rw [List.length_map, show decide ((0 : Int) = 0) = true from rfl, Bool.not_true, cond_false, deF (p := (ns.length : Int) < (ns.length : Int)) (by omega), cond_false, Option.bind_some, deT (p := (ns.length : Int) ≤ (ns.length : Int)) (by omega), Option.bind_some]
  dsimp only
  rw [Bool.not_true, cond_false, wrapF_u32 (by omega) (by omega), wuint_ok (by omega) (by omega) (by omega), Option.bind_some]
  unfold xdr_PutList_uint32_v1_l0
  have := wnums_loop (N := N) ns h4 hl (by omega) ns.length N 0 (b ++ encN ns.length) (by omega) (by omega) (by simp; omega)
  rw [show (((0 : Nat)) : Int) = 0 from rfl, List.drop_zero] at this
  dsimp only
  rw [this, Option.bind_some, List.append_assoc]

theorem encC_le (l : List (List UInt8)) (h : ∀ t ∈ l, t.length ≤ 7) : (encC l).length ≤ 18 * l.length := by
  induction l with
  | nil => simp [encC]
  | cons t l ih =>
    have h1 := ih fun t ht => h t (List.mem_cons_of_mem _ ht)
    have h2 := encT_le (h t (List.mem_cons_self ..))
    simp only [encC, List.map_cons, List.flatten_cons, List.length_append, encN_length, List.length_cons] at h1 ⊢
    omega

theorem wchain2_ok {N : Nat} {ts : List (List UInt8)} {b : List Int} (h7 : ∀ t ∈ ts, t.length ≤ 7) (hl : ts.length < 10000) (hb : b.length < 300000) (hN : ts.length + 8 < N) : xdr_PutChain_string_v2 N (ts, 0, b) = some (0, b ++ (encC ts ++ encN 0)) := by
  unfold xdr_PutChain_string_v2 xdr_Writer_bad_v1
  dsimp only
  rw [Option.bind_some]
  dsimp only
  rw [show decide ((0 : Int) = 0) = true from rfl, Bool.not_true, cond_false]
  have := wchain_loop (N := N) ts h7 (by omega) (by omega) ts.length N 0 b (by omega) (by omega) (by omega)
  rw [show (((0 : Nat)) : Int) = 0 from rfl, List.drop_zero] at this
  have this' : xdr_PutChain_string_v2_l0 N (ts, ((ts.length : Nat) : Int), 0, 0, b) = some (0, b ++ encC ts) := this
  rw [this', Option.bind_some]
  dsimp only
  have := encC_le ts h7
  rw [wbool_ok (v := false) (by simp; omega) (by omega)]
  simp

theorem woption_ok {N n : Nat} {b : List Int} (hn : n < 4294967296) (hb : b.length < 800000) (hN : 8 < N) : xdr_PutOption_uint32_v1 N (0, (n : Int), b) = some (0, (n : Int), b ++ (encN 1 ++ encN n)) := by
  unfold xdr_PutOption_uint32_v1 xdr_Writer_bad_v1
  dsimp only
  rw [Option.bind_some]
  dsimp only
  rw [show decide ((0 : Int) = 0) = true from rfl, Bool.not_true, cond_false, wbool_ok (v := true) (by omega) hN, Option.bind_some]
  dsimp only
  rw [putnum_ok (by omega) (by simp; omega) hN]
  simp

/-! Read back -/

theorem uint_enc {N a n : Nat} {p : Int} {D r : List Int} (hb : Bts D) (ha : a ≤ D.length) (hD : D.length < 1000000) (hN : 8 < N) (hn : n < 4294967296) (h : D.drop a = encN n ++ r) :
    xdr_Reader_Uint N ((a : Int), 0, p, D) = some ((n : Int), ((a + 4 : Nat) : Int), 0, p, D) ∧ D.drop (a + 4) = r ∧ a + 4 ≤ D.length := by
  have hlen := drop_len h ha
  rw [List.length_append, encN_length] at hlen
  refine ⟨?_, ?_, by omega⟩
  · rw [uint_ok hb ha hD hN, if_neg (by omega), numAt_enc h hn]
  · have := drop_more h
    rwa [encN_length] at this

theorem int_enc {N a : Nat} {i p : Int} {D r : List Int} (hb : Bts D) (ha : a ≤ D.length) (hD : D.length < 1000000) (hN : 8 < N) (h1 : -2147483648 ≤ i) (h2 : i < 2147483648) (h : D.drop a = encN (i % 4294967296).toNat ++ r) :
    xdr_Reader_Int_v1 N ((a : Int), 0, p, D) = some (i, ((a + 4 : Nat) : Int), 0, p, D) := by
  unfold xdr_Reader_Int_v1
  dsimp only
  rw [(uint_enc hb ha hD hN (by omega) h).1, Option.bind_some]
  dsimp only
  have e : wrapF .i32 (((i % 4294967296).toNat : Nat) : Int) = i := by
    rw [ifF_i32]
    split <;> omega
  rw [e]

theorem hyper_enc {N a n : Nat} {p : Int} {D r : List Int} (hb : Bts D) (ha : a ≤ D.length) (hD : D.length < 1000000) (hN : 8 < N) (hn : n < 18446744073709551616) (h : D.drop a = be 8 n ++ r) :
    xdr_Reader_Hyper_v1 N ((a : Int), 0, p, D) = some ((n : Int), ((a + 8 : Nat) : Int), 0, p, D) := by
  have hlen := drop_len h ha
  rw [List.length_append, be_length] at hlen
  unfold xdr_Reader_Hyper_v1
  dsimp only
  rw [show xdr_Reader_At ((a : Int), 0, p, D) = some ((a : Int), (a : Int), 0, p, D) from rfl, Option.bind_some]
  dsimp only
  have := take_ok (n := 8) (s := (a : Int)) (p := p) ha (by omega) hD
  rw [show ((8 : Nat) : Int) = 8 from rfl] at this
  rw [this, if_neg (by omega), Option.bind_some]
  dsimp only
  rw [Nat.zero_add, deF (p := 8 = 0) (by omega), agreeC_known, cond_false, deT (p := (8 : Int) ≤ ((8 : Nat) : Int)) (by omega), cond_true, deT (p := a + 8 ≤ D.length) (by omega), cond_true, cond_true, get_ok (bts_take (bts_drop hb a) 8) (by simp; omega) hN, Option.bind_some, h, List.take_left' (by simp), val_be hn]

theorem fixed_enc {N a : Nat} {p : Int} {D l r : List Int} (hb : Bts D) (ha : a ≤ D.length) (hD : D.length < 1000000) (hN : 8 < N) (h : D.drop a = encF l ++ r) :
    xdr_Reader_Fixed_v1 N ((l.length : Int), (a : Int), 0, p, D) = some (((a + (encF l).length : Nat) : Int), 0, p, D, l) := by
  have hlen := drop_len h ha
  rw [List.length_append, encF_length] at hlen
  have h4 : D.drop a = l ++ (List.replicate (padn l.length) 0 ++ r) := by rw [h, encF, List.append_assoc]
  have h5 : D.drop (a + l.length) = List.replicate (padn l.length) 0 ++ r := drop_more h4
  unfold xdr_Reader_Fixed_v1
  dsimp only
  rw [show xdr_Reader_At ((a : Int), 0, p, D) = some ((a : Int), (a : Int), 0, p, D) from rfl, Option.bind_some]
  dsimp only
  rw [fixed_ok ha hD (by omega) hN, if_neg (by omega), h5, List.take_left' (by simp), if_pos (rep_zeros _), Option.bind_some, h4, List.take_left, encF_length]
  simp [Nat.add_assoc]

theorem fits4 {n : Nat} (h : n < 1000000) : fits 4 n = true := by simp [fits]; omega

theorem rnums_loop {N : Nat} {D : List Int} {p : Int} (hb : Bts D) (hD : D.length < 1000000) (hN : 8 < N) (n : Nat) (hn : n < 4294967296) : ∀ (ns : List Nat) (f i a : Nat) (acc r : List Int),
    i + ns.length = n → (∀ m ∈ ns, m < 4294967296) → ns.length < f → a ≤ D.length → D.drop a = encNs ns ++ r → acc.length + ns.length < 100000 →
    loopF (xdr_List_uint32_v1_b0 N) f ((n : Int), (i : Int), (a : Int), 0, p, D, acc) = some (((a + 4 * ns.length : Nat) : Int), 0, p, D, acc ++ ns.map Int.ofNat) := by
  intro ns
  induction ns with
  | nil =>
    intro f i a acc r hi h4 hf ha h hacc
    obtain ⟨f, rfl⟩ : ∃ g, f = g + 1 := ⟨f - 1, by omega⟩
    show xdr_List_uint32_v1_b0 N _ _ = _
    unfold xdr_List_uint32_v1_b0
    dsimp only
    rw [deF (by simp at hi; omega), cond_false]
    simp
  | cons m ns ih =>
    intro f i a acc r hi h4 hf ha h hacc
    obtain ⟨f, rfl⟩ : ∃ g, f = g + 1 := ⟨f - 1, by omega⟩
    rw [List.length_cons] at hi hf hacc
    have h' : D.drop a = encN m ++ (encNs ns ++ r) := by
      rw [h]; simp only [encNs, List.map_cons, List.flatten_cons, List.append_assoc]
    obtain ⟨u1, u2, u3⟩ := uint_enc (p := p) hb ha hD hN (h4 m (List.mem_cons_self ..)) h'
    show xdr_List_uint32_v1_b0 N (loopF (xdr_List_uint32_v1_b0 N) f) _ = _
    generalize hnx : loopF (xdr_List_uint32_v1_b0 N) f = nx
    unfold xdr_List_uint32_v1_b0 granarylaw01_getNum
    dsimp only
    have e1 : ((i : Int) + 1) = ((i + 1 : Nat) : Int) := by omega
    rw [deT (p := (i : Int) < (n : Int)) (by omega), cond_true, rbad_ok, Option.bind_some]
    dsimp only
    rw [show decide ((0 : Int) = 0) = true from rfl, Bool.not_true, cond_false, u1, Option.bind_some, Option.bind_some]
    dsimp only
    rw [show decide (1 ≤ [(m : Int)].length) = true from rfl, show List.take 1 (List.drop 0 [(m : Int)]) = [(m : Int)] from rfl, fits4 (by simp; omega), Bool.and_self, cond_true, wrapF_i64 (by omega) (by omega), e1, ← hnx,
      ih f (i + 1) (a + 4) _ r (by omega) (fun k hk => h4 k (List.mem_cons_of_mem _ hk)) (by omega) u3 u2 (by simp; omega)]
    simp
    omega

theorem rnums_ok {N a : Nat} {p : Int} {ns : List Nat} {D r : List Int} (hb : Bts D) (ha : a ≤ D.length) (hD : D.length < 1000000) (hN : ns.length + 8 < N) (h4 : ∀ m ∈ ns, m < 4294967296) (hl : ns.length < 30000) (h : D.drop a = (encN ns.length ++ encNs ns) ++ r) :
    xdr_List_uint32_v1 N ((ns.length : Int), (a : Int), 0, p, D) = some (((a + (encN ns.length ++ encNs ns).length : Nat) : Int), 0, p, D, ns.map Int.ofNat) := by
  rw [List.append_assoc] at h
  obtain ⟨u1, u2, u3⟩ := uint_enc (p := p) (N := N) hb ha hD (by omega) (by omega) h
  have hn : numAt D a = ns.length := numAt_enc h (by omega)
  unfold xdr_List_uint32_v1 xdr_List_uint32_v1_l0
  dsimp only
  rw [length_ok hb ha hD (by omega), if_neg (by omega), hn, if_neg (by omega), Option.bind_some]
  dsimp only
  have := rnums_loop (p := p) (N := N) hb hD (by omega) ns.length (by omega) ns N 0 (a + 4) [] r (by omega) h4 (by omega) u3 u2 (by simp; omega)
  rw [show (((0 : Nat)) : Int) = 0 from rfl, List.nil_append] at this
  rw [this, Option.bind_some]
  dsimp only
  rw [rbad_ok, Option.bind_some]
  dsimp only
  rw [show decide ((0 : Int) = 0) = true from rfl, Bool.not_true, cond_false, List.length_append, encN_length, encNs_length, Nat.add_assoc]

theorem gettext_enc {N a : Nat} {p : Int} {D r : List Int} {t : List UInt8} (hb : Bts D) (ha : a ≤ D.length) (hD : D.length < 1000000) (hN : 8 < N) (h : D.drop a = encT t ++ r) (ht : t.length ≤ 7) :
    granarylaw01_getText N ((a : Int), 0, p, D) = some (t, ((a + (encT t).length : Nat) : Int), 0, p, D) := by
  unfold granarylaw01_getText
  dsimp only
  rw [text_enc hb ha hD hN h (by omega)]
  rfl

theorem rchain_enc_loop {N : Nat} {D : List Int} {p M : Int} (hb : Bts D) (hD : D.length < 1000000) (hN : 8 < N) : ∀ (ts : List (List UInt8)) (f a : Nat) (acc : List (List UInt8)) (r : List Int),
    (∀ t ∈ ts, t.length ≤ 7) → ts.length < f → a ≤ D.length → D.drop a = encC ts ++ (encN 0 ++ r) → acc.length + ts.length < 100000 → ((acc.length + ts.length : Nat) : Int) ≤ M →
    loopF (xdr_Chain_string_v1_b0 N) f (M, (a : Int), 0, p, D, acc) = some (.inr (((a + ((encC ts).length + 4) : Nat) : Int), 0, p, D, acc ++ ts)) := by
  intro ts
  induction ts with
  | nil =>
    intro f a acc r h7 hf ha h hacc hM
    obtain ⟨f, rfl⟩ : ∃ g, f = g + 1 := ⟨f - 1, by omega⟩
    show xdr_Chain_string_v1_b0 N _ _ = _
    unfold xdr_Chain_string_v1_b0
    dsimp only
    rw [show xdr_Reader_At ((a : Int), 0, p, D) = some ((a : Int), (a : Int), 0, p, D) from rfl, Option.bind_some]
    dsimp only
    rw [bool_enc (b := false) hb ha hD hN (by simpa [encC] using h), Option.bind_some]
    dsimp only
    rw [rbad_ok, Option.bind_some]
    simp [encC]
  | cons t ts ih =>
    intro f a acc r h7 hf ha h hacc hM
    obtain ⟨f, rfl⟩ : ∃ g, f = g + 1 := ⟨f - 1, by omega⟩
    rw [List.length_cons] at hf hacc hM
    have h' : D.drop a = encN 1 ++ (encT t ++ (encC ts ++ (encN 0 ++ r))) := by
      rw [h]; simp only [encC, List.map_cons, List.flatten_cons, List.append_assoc]
    have hlen := drop_len h' ha
    simp only [List.length_append, encN_length] at hlen
    have h2 : D.drop (a + 4) = encT t ++ (encC ts ++ (encN 0 ++ r)) := by have := drop_more h'; rwa [encN_length] at this
    have h3 := drop_more h2
    have ht := h7 t (List.mem_cons_self ..)
    show xdr_Chain_string_v1_b0 N (loopF (xdr_Chain_string_v1_b0 N) f) _ = _
    generalize hnx : loopF (xdr_Chain_string_v1_b0 N) f = nx
    unfold xdr_Chain_string_v1_b0
    dsimp only
    rw [show xdr_Reader_At ((a : Int), 0, p, D) = some ((a : Int), (a : Int), 0, p, D) from rfl, Option.bind_some]
    dsimp only
    rw [bool_enc (b := true) hb ha hD hN h', Option.bind_some]
    dsimp only
    rw [rbad_ok, Option.bind_some, show decide ((0 : Int) = 0) = true from rfl, Bool.not_true, cond_false, cond_false, deF (p := M ≤ ((acc.length : Nat) : Int)) (by omega), cond_false]
    dsimp only
    rw [gettext_enc hb (by omega) hD hN h2 ht, Option.bind_some]
    dsimp only
    rw [show decide (1 ≤ [t].length) = true from rfl, show List.take 1 (List.drop 0 [t]) = [t] from rfl, fits16 (by simp; omega), Bool.and_self, cond_true, ← hnx,
      ih f (a + 4 + (encT t).length) _ r (fun u hu => h7 u (List.mem_cons_of_mem _ hu)) (by omega) (by omega) h3 (by simp; omega) (by simp; omega)]
    have e : a + 4 + (encT t).length + ((encC ts).length + 4) = a + ((encC (t :: ts)).length + 4) := by
      simp only [encC, List.map_cons, List.flatten_cons, List.length_append, encN_length]; omega
    rw [e, List.append_assoc]
    rfl

theorem rchain_enc {N a : Nat} {p : Int} {D r : List Int} {ts : List (List UInt8)} (hb : Bts D) (ha : a ≤ D.length) (hD : D.length < 1000000) (hN : ts.length + 8 < N) (h7 : ∀ t ∈ ts, t.length ≤ 7) (hl : ts.length < 30000) (h : D.drop a = (encC ts ++ encN 0) ++ r) :
    xdr_Chain_string_v1 N ((ts.length : Int), (a : Int), 0, p, D) = some (((a + (encC ts ++ encN 0).length : Nat) : Int), 0, p, D, ts) := by
  rw [List.append_assoc] at h
  unfold xdr_Chain_string_v1 xdr_Chain_string_v1_l0
  dsimp only
  rw [rchain_enc_loop (p := p) (N := N) (M := (ts.length : Int)) hb hD (by omega) ts N a [] r h7 (by omega) ha h (by simp; omega) (by simp), Option.bind_some]
  simp

theorem roption_enc {N a n : Nat} {p : Int} {D r : List Int} (hb : Bts D) (ha : a ≤ D.length) (hD : D.length < 1000000) (hN : 8 < N) (hn : n < 4294967296) (h : D.drop a = (encN 1 ++ encN n) ++ r) :
    xdr_Option_uint32_v1 N ((a : Int), 0, p, D) = some (.inr (((a + 8 : Nat) : Int), 0, p, D, (n : Int))) := by
  rw [List.append_assoc] at h
  have hlen := drop_len h ha
  simp only [List.length_append, encN_length] at hlen
  have h2 : D.drop (a + 4) = encN n ++ r := by have := drop_more h; rwa [encN_length] at this
  unfold xdr_Option_uint32_v1 granarylaw01_getNum
  dsimp only
  rw [bool_enc (b := true) hb ha hD hN h, Option.bind_some]
  dsimp only
  rw [Bool.not_true, cond_false, (uint_enc hb (by omega) hD hN hn h2).1, Option.bind_some, Option.bind_some]
  dsimp only
  rw [rbad_ok, Option.bind_some]
  rfl

theorem same_loop {N : Nat} (l : List Int) (hl : l.length < 1000000) : ∀ (d f i : Nat), i + d = l.length → d < f → loopF (granarylaw01_same_b0 N) f (l, l, (i : Int)) = some (.inr ()) := by
  intro d
  induction d with
  | zero =>
    intro f i hi hf
    obtain ⟨f, rfl⟩ : ∃ g, f = g + 1 := ⟨f - 1, by omega⟩
    show granarylaw01_same_b0 N _ _ = _
    unfold granarylaw01_same_b0
    dsimp only
    rw [deF (by omega), cond_false]
  | succ d ih =>
    intro f i hi hf
    obtain ⟨f, rfl⟩ : ∃ g, f = g + 1 := ⟨f - 1, by omega⟩
    show granarylaw01_same_b0 N (loopF (granarylaw01_same_b0 N) f) _ = _
    generalize hnx : loopF (granarylaw01_same_b0 N) f = nx
    unfold granarylaw01_same_b0
    dsimp only
    have e1 : ((i : Int) + 1) = ((i + 1 : Nat) : Int) := by omega
    rw [deT (p := (i : Int) < (l.length : Int)) (by omega), cond_true, deT (p := (0 : Int) ≤ (i : Int)) (by omega), Bool.and_self, cond_true, cond_true, deS, Bool.not_true, cond_false, wrapF_i64 (by omega) (by omega), e1, ← hnx, ih f (i + 1) (by omega) (by omega)]

theorem same_ok {N : Nat} {l : List Int} (hl : l.length < 1000000) (hN : l.length < N) : granarylaw01_same N (l, l) = some true := by
  unfold granarylaw01_same granarylaw01_same_l0
  dsimp only
  have := same_loop (N := N) l hl l.length N 0 (by omega) hN
  rw [show (((0 : Nat)) : Int) = 0 from rfl] at this
  rw [deS, Bool.not_true, cond_false, this]
  rfl

theorem texts_loop {N : Nat} (l : List (List UInt8)) (hl : l.length < 1000000) : ∀ (d f i : Nat), i + d = l.length → d < f → loopF (granarylaw01_texts_b0 N) f (l, l, (i : Int)) = some (.inr ()) := by
  intro d
  induction d with
  | zero =>
    intro f i hi hf
    obtain ⟨f, rfl⟩ : ∃ g, f = g + 1 := ⟨f - 1, by omega⟩
    show granarylaw01_texts_b0 N _ _ = _
    unfold granarylaw01_texts_b0
    dsimp only
    rw [deF (by omega), cond_false]
  | succ d ih =>
    intro f i hi hf
    obtain ⟨f, rfl⟩ : ∃ g, f = g + 1 := ⟨f - 1, by omega⟩
    show granarylaw01_texts_b0 N (loopF (granarylaw01_texts_b0 N) f) _ = _
    generalize hnx : loopF (granarylaw01_texts_b0 N) f = nx
    unfold granarylaw01_texts_b0
    dsimp only
    have e1 : ((i : Int) + 1) = ((i + 1 : Nat) : Int) := by omega
    rw [deT (p := (i : Int) < (l.length : Int)) (by omega), cond_true, deT (p := (0 : Int) ≤ (i : Int)) (by omega), Bool.and_self, cond_true, cond_true, deS, Bool.not_true, cond_false, wrapF_i64 (by omega) (by omega), e1, ← hnx, ih f (i + 1) (by omega) (by omega)]

theorem texts_ok {N : Nat} {l : List (List UInt8)} (hl : l.length < 1000000) (hN : l.length < N) : granarylaw01_texts N (l, l) = some true := by
  unfold granarylaw01_texts granarylaw01_texts_l0
  dsimp only
  have := texts_loop (N := N) l hl l.length N 0 (by omega) hN
  rw [show (((0 : Nat)) : Int) = 0 from rfl] at this
  rw [deS, Bool.not_true, cond_false, this]
  rfl

end Go.Rf.W.Pure
