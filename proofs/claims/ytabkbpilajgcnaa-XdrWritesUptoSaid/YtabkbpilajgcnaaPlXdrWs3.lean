/-
  Package xdr: one write of any kind, both writers: the law's own step.
-/
import Derived.Test.YtabkbpilajgcnaaPlXdrWs2
set_option linter.unusedVariables false
set_option linter.unusedSimpArgs false
set_option maxRecDepth 10000
namespace Go.Rf.W.Pure
open Go Go.Rf Go.Rf.W

def opsz (y u : List Int) (t : List (List UInt8)) : Nat := y.length + 8 * u.length + tot t t.length

/-- A row's count, and whether it fits: the document's way. -/
theorem count_ok {n : Nat} {M : Int} {s : Int × List Int} (hn : n < 1000000) (hs : s.2.length < 800000) :
    ∃ s' : Int × List Int, (∀ {R : Type} (f : Int → Option R), (Option.bind (cond (decide (s.1 = (0 : Int))) (some (decide (M < (n : Int)))) (some false)) fun r40 => Option.bind (cond r40 (some (1 : Int)) (some s.1)) f) = f s'.1) ∧
      s'.2 = s.2 ∧ granaryref01_Writer_Uint_v1 (wrapF .u32 ((n : Nat) : Int), s'.1, s.2) = some (wU n s') ∧ s'.1 = (if s.1 = 0 ∧ M < (n : Int) then 1 else s.1) := by
  refine ⟨(if s.1 = 0 ∧ M < (n : Int) then 1 else s.1, s.2), fun f => ?_, rfl, ?_, rfl⟩
  · by_cases h : s.1 = 0
    · rw [deT h, cond_true, Option.bind_some]
      by_cases h2 : M < (n : Int)
      · rw [deT h2, if_pos ⟨h, h2⟩]; rfl
      · rw [deF h2, if_neg (fun c => h2 c.2)]; rfl
    · rw [deF h, if_neg (fun c => h c.1)]; rfl
  · rw [wrapF_u32 (by omega) (by omega)]
    exact rwuint1 (n := n) (s := (if s.1 = 0 ∧ M < (n : Int) then 1 else s.1, s.2)) (by dsimp only; omega)

theorem writes_ok {N v : Nat} {k M : Int} {y u : List Int} {t : List (List UInt8)} {s : Int × List Int} (hN : 100000 < N) (hv : v < 18446744073709551616) (hy : Bts y) (hu : ∀ x ∈ u, 0 ≤ x ∧ x < 4294967296) (hsz : opsz y u t ≤ 60000) (hs : s.2.length ≤ 200000) :
    ∃ r : Int × List Int, granarylaw01_writes_v1 N (k, (v : Int), y, M, u, t, s.1, s.1, s.2, s.2) = some (r.1, r.1, r.2, r.2) ∧ r.2.length ≤ s.2.length + 2 * opsz y u t + 16 := by
  unfold opsz at hsz ⊢
  have ev : wrapF .u32 (v : Int) = ((v % 4294967296 : Nat) : Int) := by simp only [wrapF]; omega
  have hvm : v % 4294967296 < 4294967296 := Nat.mod_lt _ (by decide)
  unfold granarylaw01_writes_v1
  dsimp only
  by_cases k0 : k = 0
  · rw [deT k0, cond_true, ev, wuint1 (by omega) (by omega) (by omega), Option.bind_some, rwuint1 (by omega)]
    exact ⟨wU (v % 4294967296) s, rfl, by have := wU_len (v % 4294967296) s; omega⟩
  rw [deF k0, cond_false]
  by_cases k7 : k = 7
  · rw [deT k7, cond_true, ev, wuint1 (by omega) (by omega) (by omega), Option.bind_some, rwuint1 (by omega)]
    exact ⟨wU (v % 4294967296) s, rfl, by have := wU_len (v % 4294967296) s; omega⟩
  rw [deF k7, cond_false]
  by_cases k1 : k = 1
  · have e1 : wrapF .u32 (wrapF .i32 (v : Int)) = ((v % 4294967296 : Nat) : Int) := by
      rw [ifF_i32]; simp only [wrapF]; split <;> omega
    unfold xdr_Writer_Int_v1
    dsimp only
    rw [deT k1, cond_true, e1, wuint1 (by omega) (by omega) (by omega), Option.bind_some, Option.bind_some, rwuint1 (by omega)]
    exact ⟨wU (v % 4294967296) s, rfl, by have := wU_len (v % 4294967296) s; omega⟩
  rw [deF k1, cond_false]
  by_cases k2 : k = 2
  · rw [deT k2, cond_true, whyper_ok hv (by omega) (by omega), Option.bind_some, rwhyper_ok hv (by omega)]
    exact ⟨wU (v % 4294967296) (wU (v / 4294967296) s), rfl, by have := wU_len (v % 4294967296) (wU (v / 4294967296) s); have := wU_len (v / 4294967296) s; omega⟩
  rw [deF k2, cond_false]
  by_cases k3 : k = 3
  · rw [deT k3, cond_true, wbool_ok (by omega) (by omega), Option.bind_some, rwbool_ok (by omega)]
    exact ⟨wU (decide ((v : Int) = 1)).toNat s, rfl, by have := wU_len (decide ((v : Int) = 1)).toNat s; omega⟩
  rw [deF k3, cond_false]
  by_cases k4 : k = 4
  · rw [deT k4, cond_true, wfixed_ok (by omega) (by omega), Option.bind_some, rwfixed_ok (by omega) (by omega)]
    exact ⟨wF y s, rfl, by have := wF_len y s; omega⟩
  rw [deF k4, cond_false]
  by_cases k5 : k = 5
  · rw [deT k5, cond_true, wopaque5 (by omega) (by omega), Option.bind_some, rwopaque2 (by omega) (by omega)]
    exact ⟨wO y M s, rfl, by have := wO_len y M s; omega⟩
  rw [deF k5, cond_false]
  by_cases k6 : k = 6
  · have e6 : xdr_Writer_Text N (List.map (fun (n : Int) => UInt8.ofNat n.toNat) y, M, s.1, s.2) = some (wO y M s) := by
      unfold xdr_Writer_Text
      dsimp only
      have h := ofS_toS hy
      rw [show List.map (fun b : UInt8 => (b.toNat : Int)) (List.map (fun (n : Int) => UInt8.ofNat n.toNat) y) = ofS (toS y) from rfl, h, wopaque1 (by omega) (by omega)]
      rfl
    rw [deT k6, cond_true, e6, Option.bind_some, rwopaque2 (by omega) (by omega)]
    exact ⟨wO y M s, rfl, by have := wO_len y M s; omega⟩
  rw [deF k6, cond_false]
  by_cases k8 : k = 8
  · obtain ⟨s', c1, c2, c3, c4⟩ := count_ok (n := u.length) (M := M) (s := s) (by omega) (by omega)
    have hl := wU_len u.length s'
    have hr := rputs1_ok (N := N) (k := k) (v := (v : Int)) (M := M) (y := y) (l := u) (s := wU u.length s') hu (by omega) (by rw [c2] at hl; omega) hN
    have hwl := wL_len u M s
    have hsame : wI u (wU u.length s') u.length = wL u M s := by
      unfold wL
      by_cases h : s.1 = 0
      · rw [if_pos h]
        by_cases h2 : M < (u.length : Int)
        · rw [if_pos ⟨h, h2⟩] at c4
          have hb : s'.1 ≠ 0 := by rw [c4]; decide
          rw [if_pos h2, wU_bad hb, wI_bad u hb]
          exact Prod.ext c4 c2
        · rw [if_neg (fun c => h2 c.2)] at c4
          rw [if_neg h2, show s' = s from Prod.ext c4 c2]
      · rw [if_neg (fun c => h c.1)] at c4
        have hb : s'.1 ≠ 0 := by rw [c4]; exact h
        rw [if_neg h, wU_bad hb, wI_bad u hb]
        exact Prod.ext c4 c2
    rw [deT k8, cond_true, putList_ok hu (by omega) (by omega) hN, Option.bind_some, c1, c3, Option.bind_some, hr, hsame]
    exact ⟨wL u M s, rfl, by omega⟩
  rw [deF k8, cond_false]
  by_cases k11 : k = 11
  · have hg := tot_ge t t.length
    obtain ⟨s', c1, c2, c3, c4⟩ := count_ok (n := t.length) (M := M) (s := s) (by omega) (by omega)
    have hl := wU_len t.length s'
    have hr := rputs3_ok (N := N) (k := k) (v := (v : Int)) (M := M) (y := y) (u := u) (l := t) (s := wU t.length s') (by omega) (by rw [c2] at hl; omega) hN
    have hsame : wT t (wU t.length s') t.length = wLT t M s := by
      unfold wLT
      by_cases h : s.1 = 0
      · rw [if_pos h]
        by_cases h2 : M < (t.length : Int)
        · rw [if_pos ⟨h, h2⟩] at c4
          have hb : s'.1 ≠ 0 := by rw [c4]; decide
          rw [if_pos h2, wU_bad hb, wT_bad t hb]
          exact Prod.ext c4 c2
        · rw [if_neg (fun c => h2 c.2)] at c4
          rw [if_neg h2, show s' = s from Prod.ext c4 c2]
      · rw [if_neg (fun c => h c.1)] at c4
        have hb : s'.1 ≠ 0 := by rw [c4]; exact h
        rw [if_neg h, wU_bad hb, wT_bad t hb]
        exact Prod.ext c4 c2
    have hwl := wT_len t (wU t.length s') t.length
    rw [hsame] at hwl
    rw [c2] at hl
    rw [deT k11, cond_true, putTexts_ok (by omega) (by omega) hN, Option.bind_some, c1, c3, Option.bind_some, hr, hsame]
    exact ⟨wLT t M s, rfl, by omega⟩
  rw [deF k11, cond_false]
  by_cases k9 : k = 9
  · have hr := rputs5_ok (N := N) (k := k) (v := (v : Int)) (M := M) (y := y) (u := u) (l := t) (s := s) (by omega) (by omega) hN
    have hl := wC_len t s t.length
    rw [deT k9, cond_true, putChain_ok (by omega) (by omega) hN, Option.bind_some, hr, Option.bind_some]
    dsimp only
    rw [rwbool_ok (s := wC t s t.length) (by omega)]
    exact ⟨wCh t s, rfl, by unfold wCh; have := wU_len 0 (wC t s t.length); omega⟩
  rw [deF k9, cond_false]
  by_cases k10 : k = 10
  · rw [deT k10, cond_true]
    by_cases v0 : (v : Int) = 0
    · have e4 : xdr_PutOption_uint32_v4 N (s.1, s.2) = some (wU 0 s) := by
        unfold xdr_PutOption_uint32_v4 xdr_Writer_bad_v1
        dsimp only
        rw [Option.bind_some]
        dsimp only
        by_cases h : s.1 = 0
        · rw [deT h, Bool.not_true, cond_false, wbool_ok (by omega) (by omega)]; rfl
        · rw [deF h, wU_bad h]; rfl
      rw [deT v0, cond_true, e4, Option.bind_some, rwbool_ok (by omega)]
      exact ⟨wU 0 s, rfl, by have := wU_len 0 s; omega⟩
    · have hl := wU_len 1 s
      have e1 : xdr_PutOption_uint32_v1 N (s.1, ((v % 4294967296 : Nat) : Int), s.2) = some ((wU (v % 4294967296) (wU 1 s)).1, ((v % 4294967296 : Nat) : Int), (wU (v % 4294967296) (wU 1 s)).2) := by
        unfold xdr_PutOption_uint32_v1 xdr_Writer_bad_v1 granarylaw01_putNum
        dsimp only
        rw [Option.bind_some]
        dsimp only
        by_cases h : s.1 = 0
        · rw [deT h, Bool.not_true, cond_false, wbool_ok (by omega) (by omega), Option.bind_some, show (true).toNat = 1 from rfl, wuint1 (by omega) (by omega) (by omega)]; rfl
        · rw [deF h, wU_bad h, wU_bad h]; rfl
      rw [deF v0, cond_false, ev, e1, Option.bind_some, rwbool_ok (by omega), Option.bind_some]
      dsimp only
      rw [show (true).toNat = 1 from rfl, rwuint1 (by omega)]
      exact ⟨wU (v % 4294967296) (wU 1 s), rfl, by have := wU_len (v % 4294967296) (wU 1 s); omega⟩
  rw [deF k10, cond_false]
  exact ⟨s, rfl, by omega⟩

end Go.Rf.W.Pure
