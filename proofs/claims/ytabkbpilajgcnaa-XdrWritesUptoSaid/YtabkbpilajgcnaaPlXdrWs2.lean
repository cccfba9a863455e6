/-
  Package xdr: one write of any kind, both writers.
-/
import Derived.Test.YtabkbpilajgcnaaPlXdrWs
set_option linter.unusedVariables false
set_option linter.unusedSimpArgs false
set_option maxRecDepth 10000
namespace Go.Rf.W.Pure
open Go Go.Rf Go.Rf.W

theorem wU_e {n : Nat} {s : Int × List Int} : (wU n s).1 = s.1 := by unfold wU; split <;> rfl
theorem wU_bad {n : Nat} {s : Int × List Int} (h : s.1 ≠ 0) : wU n s = s := by unfold wU; rw [if_neg h]
theorem wO_bad {l : List Int} {M : Int} {s : Int × List Int} (h : s.1 ≠ 0) : wO l M s = s := by unfold wO; rw [if_neg h]

theorem wbool_ok {N : Nat} {v : Bool} {s : Int × List Int} (hb : s.2.length < 900000) (hN : 8 < N) : xdr_Writer_Bool_v2 N (v, s.1, s.2) = some (wU v.toNat s) := by
  unfold xdr_Writer_Bool_v2
  dsimp only
  cases v with
  | true => rw [cond_true, show (1 : Int) = ((1 : Nat) : Int) from rfl, wuint1 (by decide) hb hN]; rfl
  | false => rw [cond_false, show xdr_Writer_Uint_v1 N (0, s.1, s.2) = xdr_Writer_Uint_v1 N (((0 : Nat) : Int), s.1, s.2) from rfl, wuint1 (by decide) hb hN]; rfl

theorem rwbool_ok {v : Bool} {s : Int × List Int} (hb : s.2.length < 900000) : granaryref01_Writer_Bool_v1 (v, s.1, s.2) = some (wU v.toNat s) := by
  unfold granaryref01_Writer_Bool_v1
  dsimp only
  cases v with
  | true => rw [cond_true, show (1 : Int) = ((1 : Nat) : Int) from rfl, rwuint1 hb]; rfl
  | false => rw [cond_false, show granaryref01_Writer_Uint_v1 (0, s.1, s.2) = granaryref01_Writer_Uint_v1 (((0 : Nat) : Int), s.1, s.2) from rfl, rwuint1 hb]; rfl

def wF (l : List Int) (s : Int × List Int) : Int × List Int := if s.1 = 0 then (0, s.2 ++ (l ++ List.replicate (padn l.length) 0)) else s

theorem wF_len (l : List Int) (s : Int × List Int) : (wF l s).2.length ≤ s.2.length + l.length + 4 := by
  have := padn_lt l.length
  unfold wF; split
  · simp; omega
  · omega

theorem wfixed_ok {N : Nat} {l : List Int} {s : Int × List Int} (hl : l.length + s.2.length < 800000) (hN : 8 < N) : xdr_Writer_Fixed N (l, s.1, s.2) = some (wF l s) := by
  obtain ⟨e, b⟩ := s
  dsimp only at hl ⊢
  by_cases h : e = 0
  · subst h
    rw [fixw_ok hl hN]
    rfl
  · unfold wF
    rw [if_neg h]
    unfold xdr_Writer_Fixed xdr_Writer_bad_v1
    dsimp only
    rw [deF h]
    rfl

theorem rwfixed_ok {N : Nat} {l : List Int} {s : Int × List Int} (hl : l.length + s.2.length < 800000) (hN : 8 < N) : granaryref01_Writer_Fixed_v1 N (l, s.1, s.2) = some (wF l s) := by
  obtain ⟨e, b⟩ := s
  dsimp only at hl ⊢
  unfold granaryref01_Writer_Fixed_v1 wF
  dsimp only
  by_cases h : e = 0
  · subst h
    have hp := padn_lt l.length
    have hlp := rfixw_loop (N := N) (m := l.length + padn l.length) (by omega) (padn l.length) N (b ++ l) l.length rfl rfl (by omega) (by simp; omega)
    rw [deS, Bool.not_true, cond_false, fits1 (by omega), cond_true, if_pos rfl]
    unfold granaryref01_Writer_Fixed_v1_l0
    rw [hlp, Option.bind_some, List.append_assoc]
  · rw [deF h, if_neg h]; rfl

theorem whyper_ok {N n : Nat} {s : Int × List Int} (hn : n < 18446744073709551616) (hb : s.2.length < 800000) (hN : 16 < N) : xdr_Writer_Hyper_v1 N ((n : Int), s.1, s.2) = some (wU (n % 4294967296) (wU (n / 4294967296) s)) := by
  obtain ⟨e, b⟩ := s
  dsimp only at hb ⊢
  unfold xdr_Writer_Hyper_v1 xdr_Writer_bad_v1
  dsimp only
  rw [Option.bind_some]
  dsimp only
  by_cases h : e = 0
  · subst h
    have := put1_ok (N := N) (n := n) (size := 8) (b := b) (by omega) (by omega)
    rw [show ((8 : Nat) : Int) = 8 from rfl] at this
    rw [deS, Bool.not_true, Bool.not_false, cond_true, this]
    have e1 : be 8 n = be 4 (n / 4294967296) ++ be 4 (n % 4294967296) := by
      have e2 := be_add 4 4 n
      have e3 : be 4 n = be 4 (n % 4294967296) := by
        rw [be4, be4]
        congr 1
        · omega
        · congr 1
          · omega
          · congr 1
            · omega
            · congr 1
              omega
      rw [e3] at e2
      exact e2
    rw [e1]
    unfold wU
    rw [if_pos rfl, if_pos rfl]
    simp only [Option.bind_some, List.append_assoc]
  · have hbad : (((e, b) : Int × List Int)).1 ≠ 0 := h
    rw [wU_bad (by rw [wU_bad hbad]; exact hbad), wU_bad hbad, deF h]; rfl

theorem rwhyper_ok {n : Nat} {s : Int × List Int} (hn : n < 18446744073709551616) (hb : s.2.length < 800000) : granaryref01_Writer_Hyper_v1 ((n : Int), s.1, s.2) = some (wU (n % 4294967296) (wU (n / 4294967296) s)) := by
  unfold granaryref01_Writer_Hyper_v1
  dsimp only
  have e1 : shrF .u64 (n : Int) 32 = ((n / 4294967296 : Nat) : Int) := shrF_nat .u64 (a := n) (n := 32) (by decide)
  have e2 : wrapF .u32 (n : Int) = ((n % 4294967296 : Nat) : Int) := by simp only [wrapF]; omega
  have hl := wU_len (n / 4294967296) s
  rw [e1, wrapF_u32 (n := ((n / 4294967296 : Nat) : Int)) (by omega) (by omega), rwuint1 (by omega), Option.bind_some, e2, rwuint1 (by omega), Option.bind_some]

/-! Lists -/

def wI (l : List Int) (s : Int × List Int) : Nat → Int × List Int
  | 0 => s
  | i + 1 => wU (l.getD i 0).toNat (wI l s i)

theorem wI_len (l : List Int) (s : Int × List Int) : ∀ i, (wI l s i).2.length ≤ s.2.length + 4 * i
  | 0 => by simp [wI]
  | i + 1 => by
    have h1 := wI_len l s i
    have h2 := wU_len (l.getD i 0).toNat (wI l s i)
    show (wU (l.getD i 0).toNat (wI l s i)).2.length ≤ _
    omega
theorem wI_bad (l : List Int) {s : Int × List Int} (h : s.1 ≠ 0) : ∀ i, wI l s i = s
  | 0 => rfl
  | i + 1 => by show wU _ (wI l s i) = s; rw [wI_bad l h i, wU_bad h]

theorem getD_u32 {l : List Int} (hl : ∀ x ∈ l, 0 ≤ x ∧ x < 4294967296) {i : Nat} (hi : i < l.length) : List.getD l i (EK.dflt (.int .u32)) = (((l.getD i 0).toNat : Nat) : Int) ∧ (l.getD i 0).toNat < 4294967296 := by
  have h : l.getD i 0 = l[i] := by rw [List.getD, List.getElem?_eq_getElem hi]; rfl
  have h2 : List.getD l i (EK.dflt (.int .u32)) = l[i] := by rw [List.getD, List.getElem?_eq_getElem hi]; rfl
  have h3 := hl _ (List.getElem_mem hi)
  rw [h, h2]
  omega

def wL (l : List Int) (M : Int) (s : Int × List Int) : Int × List Int :=
  if s.1 = 0 then (if M < (l.length : Int) then (1, s.2) else wI l (wU l.length s) l.length) else s

theorem wL_len (l : List Int) (M : Int) (s : Int × List Int) : (wL l M s).2.length ≤ s.2.length + 4 * l.length + 4 := by
  have h1 := wU_len l.length s
  have h2 := wI_len l (wU l.length s) l.length
  unfold wL
  split
  · split
    · dsimp only; omega
    · omega
  · omega

theorem putList_ok {N : Nat} {l : List Int} {M : Int} {s : Int × List Int} (hl : ∀ x ∈ l, 0 ≤ x ∧ x < 4294967296) (h1 : l.length < 30000) (hs : s.2.length < 300000) (hN : 100000 < N) :
    xdr_PutList_uint32_v1 N (l, M, s.1, s.2) = some (wL l M s) := by
  obtain ⟨e, b⟩ := s
  unfold xdr_PutList_uint32_v1 xdr_Writer_fits xdr_Writer_bad_v1 wL
  dsimp only at hs ⊢
  rw [Option.bind_some]
  dsimp only
  by_cases h : e = 0
  · subst h
    rw [deS, if_pos rfl, Bool.not_true, cond_false]
    by_cases h2 : M < (l.length : Int)
    · rw [deT h2, cond_true, Option.bind_some, deF (p := (l.length : Int) ≤ M) (by omega), Option.bind_some, if_pos h2]; rfl
    · rw [deF h2, cond_false, Option.bind_some, deT (p := (l.length : Int) ≤ M) (by omega), Option.bind_some, if_neg h2]
      dsimp only
      rw [Bool.not_true, cond_false, wrapF_u32 (by omega) (by omega)]
      have hu := wuint1 (N := N) (n := l.length) (s := (0, b)) (by omega) (by dsimp only; omega) (by omega)
      dsimp only at hu
      rw [hu, Option.bind_some]
      have hl0 := wU_len l.length (0, b)
      generalize wU l.length (0, b) = t at hl0 ⊢
      dsimp only at hl0
      have key : xdr_PutList_uint32_v1_l0 N (l, (l.length : Int), 0, t.1, t.2) = some (wI l t l.length) := by
        refine r_iter (b := xdr_PutList_uint32_v1_b0 N) (r := wI l t l.length) (fun i => (l, (l.length : Int), (i : Int), (wI l t i).1, (wI l t i).2)) l.length (fun i hi nx => ?_) (fun nx => ?_) N (by omega)
        · unfold xdr_PutList_uint32_v1_b0 granarylaw01_putNum
          dsimp only
          obtain ⟨g1, g2⟩ := getD_u32 hl hi
          have hlen := wI_len l t i
          rw [deT (p := (i : Int) < (l.length : Int)) (by omega), cond_true, deT (p := (0 : Int) ≤ (i : Int)) (by omega), Bool.and_self, cond_true, Int.toNat_natCast, g1, wuint1 (by omega) (by omega) (by omega), Option.bind_some, Option.bind_some, wrapF_i64 (by omega) (by omega)]
          rfl
        · unfold xdr_PutList_uint32_v1_b0
          dsimp only
          rw [deF (by omega), cond_false]
      rw [key, Option.bind_some]
  · rw [deF h, if_neg h]; rfl

theorem rputs1_ok {N : Nat} {k v M : Int} {y l : List Int} {s : Int × List Int} (hl : ∀ x ∈ l, 0 ≤ x ∧ x < 4294967296) (h1 : l.length < 30000) (hs : s.2.length < 300000) (hN : 100000 < N) :
    granarylaw01_writes_v1_l1 N (0, s.1, k, v, y, M, l, s.2) = some ((wI l s l.length).1, k, v, y, M, l, (wI l s l.length).2) := by
  refine r_iter (b := granarylaw01_writes_v1_b1 N) (r := ((wI l s l.length).1, k, v, y, M, l, (wI l s l.length).2)) (fun i => ((i : Int), (wI l s i).1, k, v, y, M, l, (wI l s i).2)) l.length (fun i hi nx => ?_) (fun nx => ?_) N (by omega)
  · unfold granarylaw01_writes_v1_b1
    dsimp only
    obtain ⟨g1, g2⟩ := getD_u32 hl hi
    have hlen := wI_len l s i
    rw [deT (p := (i : Int) < (l.length : Int)) (by omega), cond_true, deT (p := (0 : Int) ≤ (i : Int)) (by omega), Bool.and_self, cond_true, Int.toNat_natCast, g1, rwuint1 (by omega), Option.bind_some, wrapF_i64 (by omega) (by omega)]
    rfl
  · unfold granarylaw01_writes_v1_b1
    dsimp only
    rw [deF (by omega), cond_false]

/-- What texts take, at most. -/
def tot (l : List (List UInt8)) : Nat → Nat
  | 0 => 0
  | i + 1 => tot l i + (l.getD i []).length + 8

theorem tot_mono (l : List (List UInt8)) {i j : Nat} (h : i ≤ j) : tot l i ≤ tot l j := by
  induction j with
  | zero => have : i = 0 := by omega
            subst this; exact Nat.le_refl _
  | succ j ih =>
    by_cases e : i = j + 1
    · subst e; exact Nat.le_refl _
    · have := ih (by omega)
      show _ ≤ tot l j + _ + 8
      omega
theorem tot_ge (l : List (List UInt8)) : ∀ i, 8 * i ≤ tot l i
  | 0 => Nat.le_refl _
  | i + 1 => by have := tot_ge l i; show _ ≤ tot l i + _ + 8; omega
theorem tot_at (l : List (List UInt8)) {i j : Nat} (h : i < j) : (l.getD i []).length + 8 + tot l i ≤ tot l j := by
  have : tot l (i + 1) ≤ tot l j := tot_mono l h
  have e : tot l (i + 1) = tot l i + (l.getD i []).length + 8 := rfl
  omega

theorem ofS_len (t : List UInt8) : (ofS t).length = t.length := List.length_map ..

def wT (l : List (List UInt8)) (s : Int × List Int) : Nat → Int × List Int
  | 0 => s
  | i + 1 => wO (ofS (l.getD i [])) 7 (wT l s i)
theorem wT_len (l : List (List UInt8)) (s : Int × List Int) : ∀ i, (wT l s i).2.length ≤ s.2.length + tot l i
  | 0 => Nat.le_refl _
  | i + 1 => by
    have h1 := wT_len l s i
    have h2 := wO_len (ofS (l.getD i [])) 7 (wT l s i)
    rw [ofS_len] at h2
    show (wO _ 7 (wT l s i)).2.length ≤ s.2.length + (tot l i + _ + 8)
    omega
theorem wT_bad (l : List (List UInt8)) {s : Int × List Int} (h : s.1 ≠ 0) : ∀ i, wT l s i = s
  | 0 => rfl
  | i + 1 => by show wO _ 7 (wT l s i) = s; rw [wT_bad l h i, wO_bad h]

def wC (l : List (List UInt8)) (s : Int × List Int) : Nat → Int × List Int
  | 0 => s
  | i + 1 => wO (ofS (l.getD i [])) 7 (wU 1 (wC l s i))
theorem wC_len (l : List (List UInt8)) (s : Int × List Int) : ∀ i, (wC l s i).2.length ≤ s.2.length + 2 * tot l i
  | 0 => Nat.le_refl _
  | i + 1 => by
    have h1 := wC_len l s i
    have h3 := wU_len 1 (wC l s i)
    have h2 := wO_len (ofS (l.getD i [])) 7 (wU 1 (wC l s i))
    rw [ofS_len] at h2
    show (wO _ 7 (wU 1 (wC l s i))).2.length ≤ s.2.length + 2 * (tot l i + _ + 8)
    omega
theorem wC_bad (l : List (List UInt8)) {s : Int × List Int} (h : s.1 ≠ 0) : ∀ i, wC l s i = s
  | 0 => rfl
  | i + 1 => by show wO _ 7 (wU 1 (wC l s i)) = s; rw [wC_bad l h i, wU_bad h, wO_bad h]

theorem getD_str {l : List (List UInt8)} {i : Nat} : List.getD l i (EK.dflt .str) = l.getD i [] := rfl

theorem puttext_ok {N : Nat} {t : List UInt8} {s : Int × List Int} (h : t.length + s.2.length < 700000) (hN : 8 < N) : granarylaw01_putText N (t, s.1, s.2) = some (wO (ofS t) 7 s) := by
  unfold granarylaw01_putText xdr_Writer_Text
  dsimp only
  have := wopaque1 (N := N) (l := ofS t) (M := 7) (s := s) (by rw [ofS_len]; exact h) hN
  rw [show List.map (fun b : UInt8 => (b.toNat : Int)) t = ofS t from rfl, this]
  rfl

def wLT (l : List (List UInt8)) (M : Int) (s : Int × List Int) : Int × List Int :=
  if s.1 = 0 then (if M < (l.length : Int) then (1, s.2) else wT l (wU l.length s) l.length) else s

theorem putTexts_ok {N : Nat} {l : List (List UInt8)} {M : Int} {s : Int × List Int} (h1 : tot l l.length ≤ 60000) (hs : s.2.length < 300000) (hN : 100000 < N) :
    xdr_PutList_string_v2 N (l, M, s.1, s.2) = some (wLT l M s) := by
  have hg := tot_ge l l.length
  obtain ⟨e, b⟩ := s
  unfold xdr_PutList_string_v2 xdr_Writer_fits xdr_Writer_bad_v1 wLT
  dsimp only at hs ⊢
  rw [Option.bind_some]
  dsimp only
  by_cases h : e = 0
  · subst h
    rw [deS, if_pos rfl, Bool.not_true, cond_false]
    by_cases h2 : M < (l.length : Int)
    · rw [deT h2, cond_true, Option.bind_some, deF (p := (l.length : Int) ≤ M) (by omega), Option.bind_some, if_pos h2]; rfl
    · rw [deF h2, cond_false, Option.bind_some, deT (p := (l.length : Int) ≤ M) (by omega), Option.bind_some, if_neg h2]
      dsimp only
      rw [Bool.not_true, cond_false, wrapF_u32 (by omega) (by omega)]
      have hu := wuint1 (N := N) (n := l.length) (s := (0, b)) (by omega) (by dsimp only; omega) (by omega)
      dsimp only at hu
      rw [hu, Option.bind_some]
      have hl0 := wU_len l.length (0, b)
      generalize wU l.length (0, b) = t at hl0 ⊢
      dsimp only at hl0
      have key : xdr_PutList_string_v2_l0 N (l, (l.length : Int), 0, t.1, t.2) = some (wT l t l.length) := by
        refine r_iter (b := xdr_PutList_string_v2_b0 N) (r := wT l t l.length) (fun i => (l, (l.length : Int), (i : Int), (wT l t i).1, (wT l t i).2)) l.length (fun i hi nx => ?_) (fun nx => ?_) N (by omega)
        · unfold xdr_PutList_string_v2_b0
          dsimp only
          have hlen := wT_len l t i
          have hat := tot_at l hi
          rw [deT (p := (i : Int) < (l.length : Int)) (by omega), cond_true, deT (p := (0 : Int) ≤ (i : Int)) (by omega), Bool.and_self, cond_true, Int.toNat_natCast, getD_str, puttext_ok (by omega) (by omega), Option.bind_some, wrapF_i64 (by omega) (by omega)]
          rfl
        · unfold xdr_PutList_string_v2_b0
          dsimp only
          rw [deF (by omega), cond_false]
      rw [key, Option.bind_some]
  · rw [deF h, if_neg h]; rfl

theorem rputs3_ok {N : Nat} {k v M : Int} {y u : List Int} {l : List (List UInt8)} {s : Int × List Int} (h1 : tot l l.length ≤ 60000) (hs : s.2.length < 300000) (hN : 100000 < N) :
    granarylaw01_writes_v1_l3 N (0, s.1, k, v, y, M, u, l, s.2) = some ((wT l s l.length).1, k, v, y, M, u, l, (wT l s l.length).2) := by
  have hg := tot_ge l l.length
  refine r_iter (b := granarylaw01_writes_v1_b3 N) (r := ((wT l s l.length).1, k, v, y, M, u, l, (wT l s l.length).2)) (fun i => ((i : Int), (wT l s i).1, k, v, y, M, u, l, (wT l s i).2)) l.length (fun i hi nx => ?_) (fun nx => ?_) N (by omega)
  · unfold granarylaw01_writes_v1_b3
    dsimp only
    have hlen := wT_len l s i
    have hat := tot_at l hi
    have hO := rwopaque (N := N) (l := ofS (l.getD i [])) (M := 7) (s := wT l s i) (by rw [ofS_len]; omega) (by omega)
    rw [deT (p := (i : Int) < (l.length : Int)) (by omega), cond_true, deT (p := (0 : Int) ≤ (i : Int)) (by omega), Bool.and_self, cond_true, Int.toNat_natCast, getD_str, show List.map (fun b : UInt8 => (b.toNat : Int)) (l.getD i []) = ofS (l.getD i []) from rfl, hO, Option.bind_some, wrapF_i64 (by omega) (by omega)]
    rfl
  · unfold granarylaw01_writes_v1_b3
    dsimp only
    rw [deF (by omega), cond_false]

def wCh (l : List (List UInt8)) (s : Int × List Int) : Int × List Int := wU 0 (wC l s l.length)

theorem putChain_ok {N : Nat} {l : List (List UInt8)} {s : Int × List Int} (h1 : tot l l.length ≤ 60000) (hs : s.2.length < 300000) (hN : 100000 < N) :
    xdr_PutChain_string_v2 N (l, s.1, s.2) = some (wCh l s) := by
  have hg := tot_ge l l.length
  by_cases h : s.1 = 0
  · have key : xdr_PutChain_string_v2_l0 N (l, (l.length : Int), 0, s.1, s.2) = some (wC l s l.length) := by
      refine r_iter (b := xdr_PutChain_string_v2_b0 N) (r := wC l s l.length) (fun i => (l, (l.length : Int), (i : Int), (wC l s i).1, (wC l s i).2)) l.length (fun i hi nx => ?_) (fun nx => ?_) N (by omega)
      · unfold xdr_PutChain_string_v2_b0
        dsimp only
        have hlen := wC_len l s i
        have hat := tot_at l hi
        have h3 := wU_len 1 (wC l s i)
        rw [deT (p := (i : Int) < (l.length : Int)) (by omega), cond_true, deT (p := (0 : Int) ≤ (i : Int)) (by omega), Bool.and_self, cond_true, Int.toNat_natCast, getD_str, wbool_ok (by omega) (by omega), Option.bind_some, show (true).toNat = 1 from rfl, puttext_ok (by omega) (by omega), Option.bind_some, wrapF_i64 (by omega) (by omega)]
        rfl
      · unfold xdr_PutChain_string_v2_b0
        dsimp only
        rw [deF (by omega), cond_false]
    have hlen := wC_len l s l.length
    unfold xdr_PutChain_string_v2 xdr_Writer_bad_v1
    dsimp only
    rw [Option.bind_some]
    dsimp only
    rw [deT h, Bool.not_true, cond_false, key, Option.bind_some, wbool_ok (by omega) (by omega), Option.bind_some]
    rfl
  · unfold wCh
    rw [wC_bad l h, wU_bad h]
    unfold xdr_PutChain_string_v2 xdr_Writer_bad_v1
    dsimp only
    rw [deF h]
    rfl

theorem rputs5_ok {N : Nat} {k v M : Int} {y u : List Int} {l : List (List UInt8)} {s : Int × List Int} (h1 : tot l l.length ≤ 60000) (hs : s.2.length < 300000) (hN : 100000 < N) :
    granarylaw01_writes_v1_l5 N (0, s.1, s.2, k, v, y, M, u, l) = some ((wC l s l.length).1, k, v, y, M, u, l, (wC l s l.length).2) := by
  have hg := tot_ge l l.length
  refine r_iter (b := granarylaw01_writes_v1_b5 N) (r := ((wC l s l.length).1, k, v, y, M, u, l, (wC l s l.length).2)) (fun i => ((i : Int), (wC l s i).1, (wC l s i).2, k, v, y, M, u, l)) l.length (fun i hi nx => ?_) (fun nx => ?_) N (by omega)
  · unfold granarylaw01_writes_v1_b5
    dsimp only
    have hlen := wC_len l s i
    have hat := tot_at l hi
    have h3 := wU_len 1 (wC l s i)
    have hO := rwopaque (N := N) (l := ofS (l.getD i [])) (M := 7) (s := wU 1 (wC l s i)) (by rw [ofS_len]; omega) (by omega)
    rw [deT (p := (i : Int) < (l.length : Int)) (by omega), cond_true, rwbool_ok (by omega), Option.bind_some, deT (p := (0 : Int) ≤ (i : Int)) (by omega), Bool.and_self, cond_true, Int.toNat_natCast, getD_str, show List.map (fun b : UInt8 => (b.toNat : Int)) (l.getD i []) = ofS (l.getD i []) from rfl, show (true).toNat = 1 from rfl, hO, Option.bind_some, wrapF_i64 (by omega) (by omega)]
    rfl
  · unfold granarylaw01_writes_v1_b5
    dsimp only
    rw [deF (by omega), cond_false]

end Go.Rf.W.Pure
