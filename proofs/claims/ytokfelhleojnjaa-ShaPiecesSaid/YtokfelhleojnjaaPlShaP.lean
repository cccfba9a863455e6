/-
  Package sha: a hash that is saved and loaded; climbing leads to the root.
-/
import Derived.Test.YtokfelhleojnjaaPlShaT
set_option linter.unusedVariables false
set_option maxRecDepth 10000
namespace Go.Rf.W
open Go Go.Rf
namespace Sha

theorem get_loop {N : Nat} (l : List Int) (hb : ∀ x ∈ l, 0 ≤ x ∧ x < 256) (hl : l.length ≤ 8) : ∀ (d f i a : Nat), i + d = l.length → d < f → a < 256 ^ i →
    loopF (octet_Get_b0 N) f ((a : Int), l, ((l.length : Nat) : Int), (i : Int)) = some ((valA a (l.drop i) : Nat) : Int) := by
  intro d
  induction d with
  | zero =>
    intro f i a hi hf ha
    obtain ⟨f, rfl⟩ : ∃ g, f = g + 1 := ⟨f - 1, by omega⟩
    show octet_Get_b0 N _ _ = _
    unfold octet_Get_b0
    dsimp only
    rw [deF (by omega), cond_false, List.drop_of_length_le (by omega)]
    rfl
  | succ d ih =>
    intro f i a hi hf ha
    obtain ⟨f, rfl⟩ : ∃ g, f = g + 1 := ⟨f - 1, by omega⟩
    have hlt : i < l.length := by omega
    have hg : List.getD l i (EK.dflt (.int .u8)) = l[i] := by simp [List.getD, hlt]
    have hc := hb l[i] (List.getElem_mem hlt)
    have ha7 : a < 72057594037927936 := Nat.lt_of_lt_of_le ha (Nat.le_trans (Nat.pow_le_pow_right (n := 256) (i := i) (j := 7) (by decide) (by omega)) (by decide))
    have ha8 : a * 256 + l[i].toNat < 256 ^ (i + 1) := by rw [Nat.pow_succ]; omega
    clear ha
    show octet_Get_b0 N (loopF (octet_Get_b0 N) f) _ = _
    generalize hnx : loopF (octet_Get_b0 N) f = nx
    unfold octet_Get_b0
    dsimp only
    rw [deT (p := (i : Int) < ((l.length : Nat) : Int)) (by omega), deT (p := (0 : Int) ≤ (i : Int)) (by omega), cond_true, Bool.and_self, cond_true, Int.toNat_natCast, hg, step64 ha7 hc, wrapF_i64 (by omega) (by omega), ← hnx]
    have e1 : ((i : Int) + 1) = ((i + 1 : Nat) : Int) := by omega
    rw [e1, ih f (i + 1) _ (by omega) (by omega) ha8, List.drop_eq_getElem_cons hlt]
    rfl

theorem get_ok {N : Nat} {l : List Int} (hb : ∀ x ∈ l, 0 ≤ x ∧ x < 256) (hl : l.length ≤ 8) (hN : 8 < N) : octet_Get N l = some ((val l : Nat) : Int) := by
  have h := get_loop (N := N) l hb hl l.length N 0 0 (by omega) (by omega) (by omega)
  unfold octet_Get octet_Get_l0
  have e0 : ((0 : Nat) : Int) = 0 := rfl
  rw [e0] at h
  rw [h, List.drop_zero]
  rfl


/-- A hash in bytes. -/
noncomputable def saved (p : List Int) : List Int := wbytes (stA p) ++ be 8 p.length ++ stR p

theorem saved_length (p : List Int) : (saved p).length = 40 + p.length % 64 := by
  unfold saved
  rw [List.length_append, List.length_append, wbytes_length, stA_length, be_length, stR_length]

theorem save_ok {N : Nat} {p : List Int} (hp : p.length < 100000) (hN : 3000 < N) : sha_Hash_Save_v1 N (stA p, ((p.length : Nat) : Int), stR p) = some (stA p, ((p.length : Nat) : Int), stR p, saved p) := by
  unfold sha_Hash_Save_v1
  have hw := wbytes_length (stA p)
  rw [stA_length] at hw
  have h2 := put2_ok (N := N) (n := p.length) (size := 8) (b := wbytes (stA p)) (by omega) (by omega)
  rw [show ((8 : Nat) : Int) = 8 from rfl] at h2
  dsimp only
  rw [words_ok (stA_length p) (stA_bd p) (by omega), Option.bind_some, h2, Option.bind_some, fits1 (by rw [List.length_append, hw, be_length, stR_length]; omega)]
  rfl

theorem wbytes_get : ∀ (s : List Int) (i : Nat) (r : List Int), i < s.length → (∀ x ∈ s, 0 ≤ x) → List.take 4 (List.drop (4 * i) (wbytes s ++ r)) = be 4 (s.getD i 0).toNat
  | a :: s, 0, r, _, _ => by
    show List.take 4 (be 4 a.toNat ++ wbytes s ++ r) = be 4 a.toNat
    rw [List.append_assoc, List.take_append_of_le_length (by simp), List.take_of_length_le (by simp)]
  | a :: s, i + 1, r, h, hb => by
    have e : List.drop (4 * (i + 1)) (wbytes (a :: s) ++ r) = List.drop (4 * i) (wbytes s ++ r) := by
      show List.drop (4 * (i + 1)) (be 4 a.toNat ++ wbytes s ++ r) = _
      rw [List.append_assoc, show 4 * (i + 1) = 4 + 4 * i by omega, ← List.drop_drop]
      rw [List.drop_left' (be_length 4 _)]
    rw [e, wbytes_get s i r (by simpa using h) (fun x hx => hb x (by simp [hx]))]
    rfl

theorem load_loop {N : Nat} {s r : List Int} (hs : s.length = 8) (hb : Bd s) (hr : r.length < 1000) (hN : 8 < N) : sha_Load_l0 N (wbytes s ++ r, 0, List.replicate 8 0) = some s := by
  have hw := wbytes_length s
  have h := loop_iter (b := sha_Load_b0 N) (r := s) (fun i => (wbytes s ++ r, (i : Int), s.take i ++ List.replicate (8 - i) 0)) 8 (fun i hi nx => ?_) (fun nx => ?_) N hN
  · show loopF (sha_Load_b0 N) N _ = _
    simpa using h
  · have hx : s.getD i 0 ∈ s := by rw [List.getD, List.getElem?_eq_getElem (by omega)]; exact List.getElem_mem _
    have h1 := hb _ hx
    have hl : (wbytes s ++ r).length = 32 + r.length := by rw [List.length_append, hw]; omega
    have e0 : wrapF .i64 ((4 : Int) * (i : Int)) = ((4 * i : Nat) : Int) := by rw [wrapF_i64 (by omega) (by omega)]; omega
    unfold sha_Load_b0
    dsimp only
    rw [e0, deT (p := (i : Int) < 8) (by omega), deT (p := (0 : Int) ≤ (i : Int)) (by omega), deT (p := (0 : Int) ≤ ((4 * i : Nat) : Int)) (by omega), deT (p := ((4 * i : Nat) : Int) ≤ (((wbytes s ++ r).length : Nat) : Int)) (by omega), deT (p := (((wbytes s ++ r).length : Nat) : Int) ≤ (((wbytes s ++ r).length : Nat) : Int)) (by omega)]
    simp only [Bool.and_self, cond_true, Int.toNat_natCast, List.drop_zero]
    simp only [takedrop]
    rw [deT (by rw [List.length_drop]; omega), wbytes_get s i r (by omega) (fun x hx => (hb x hx).1), get_ok (be_bytes 4 _) (by simp) (by omega), val_be (by show (s.getD i 0).toNat < 4294967296; omega)]
    simp only [cond_true, Option.bind_some]
    rw [deT (by simp; omega), cond_true, wrapF_u32 (by omega) (by omega), Int.toNat_of_nonneg h1.1, wrapF_i64 (by omega) (by omega)]
    have t : s.take (i + 1) = s.take i ++ [s.getD i 0] := by
      rw [List.take_add_one, List.getD, List.getElem?_eq_getElem (by omega)]; rfl
    have : (s.take i ++ List.replicate (8 - i) (0 : Int)).set i (s.getD i 0) = s.take (i + 1) ++ List.replicate (8 - (i + 1)) 0 := by
      rw [t, List.set_append_right _ _ (by simp; omega), List.length_take, Nat.min_eq_left (by omega), Nat.sub_self, show 8 - i = (8 - (i + 1)) + 1 by omega, List.replicate_succ, List.set_cons_zero]
      simp
    rw [this]
    rfl
  · unfold sha_Load_b0
    dsimp only
    rw [deF (by omega), cond_false, List.take_of_length_le (by omega)]
    simp

theorem load_ok {N : Nat} {p : List Int} (hp : p.length < 100000) (hN : 3000 < N) : sha_Load N (saved p) = some (.inr (stA p, ((p.length : Nat) : Int), stR p)) := by
  have hl := saved_length p
  have hw := wbytes_length (stA p)
  rw [stA_length] at hw
  have e1 : (saved p).drop 32 = be 8 p.length ++ stR p := by
    unfold saved
    rw [List.append_assoc, show 32 = (wbytes (stA p)).length by rw [hw], List.drop_left]
  have e2 : List.take 8 (List.drop 0 (be 8 p.length ++ stR p)) = be 8 p.length := by
    rw [List.drop_zero, show 8 = (be 8 p.length).length by simp]
    simp
  have e3 : (saved p).drop 40 = stR p := by
    rw [show 40 = 32 + 8 by rfl, ← List.drop_drop, e1, show 8 = (be 8 p.length).length by simp]
    simp
  have e4 : List.take ((saved p).length - 32) (List.drop 32 (saved p)) = be 8 p.length ++ stR p := by rw [takedrop, e1]
  have e5 : List.take ((saved p).length - 40) (List.drop 40 (saved p)) = stR p := by rw [takedrop, e3]
  have hr := stR_length p
  have hlp := load_loop (N := N) (s := stA p) (r := be 8 p.length ++ stR p) (stA_length p) (stA_bd p) (by rw [List.length_append, be_length, hr]; omega) (by omega)
  rw [← List.append_assoc] at hlp
  have hlp' : sha_Load_l0 N (saved p, 0, List.replicate 8 (EK.dflt (.int .u32))) = some (stA p) := hlp
  unfold sha_Load
  dsimp only
  rw [e4, e5, e2, deF (p := (((saved p).length : Nat) : Int) < 40) (by omega), cond_false, deT (p := (32 : Int) ≤ (((saved p).length : Nat) : Int)) (by omega), deT (p := (((saved p).length : Nat) : Int) ≤ (((saved p).length : Nat) : Int)) (by omega), deT (p := (40 : Int) ≤ (((saved p).length : Nat) : Int)) (by omega), deT (by rw [List.length_append, be_length]; omega), get_ok (be_bytes 8 _) (by simp) (by omega), val_be (by show p.length < 18446744073709551616; omega),
    clone1_eq, clone_ok (by omega), hlp']
  simp only [Bool.and_self, cond_true, Option.bind_some]
  have e6 : Int.tmod ((p.length : Nat) : Int) 64 = ((p.length % 64 : Nat) : Int) := tmod_nat p.length 64
  rw [hr, e6, wrapF_u64 (by omega) (by omega), deS]
  rfl

theorem write4_eq (N : Nat) : sha_Hash_Write_v4 N = sha_Hash_Write_v1 N := rfl
theorem climb1_eq (N : Nat) : sha_Climb_v1 N = sha_Climb N := rfl
theorem sum1_eq (N : Nat) : sha_Sum_v1 N = sha_Sum N := rfl

theorem xor_xor_same (c x : Nat) : c ^^^ (c ^^^ x) = x := by rw [← Nat.xor_assoc, Nat.xor_self, Nat.zero_xor]
theorem flip_def : ∃ c, ∀ x, Sha.flip x = c ^^^ x := ⟨4294967295, fun _ => rfl⟩
theorem flip_flip (x : Nat) : Sha.flip (Sha.flip x) = x := by
  obtain ⟨c, h⟩ := flip_def
  rw [h, h, xor_xor_same]

theorem crc_append : ∀ (p q : List Int) (x : Nat), crc x (p ++ q) = crc (crc x p) q
  | [], _, _ => rfl
  | b :: p, q, x => crc_append p q _

/-- The check sum of bytes. -/
def crcOf (p : List Int) : Nat := Sha.flip (crc (Sha.flip 0) p)
theorem crcOf_lt {p : List Int} (h : Bt p) : crcOf p < 4294967296 := flip_lt (crc_lt p _ h (flip_lt (by decide)))
theorem more_st {N : Nat} {p q : List Int} (hp : Bt p) (hq : Bt q) (hl : q.length < 100000) (hN : 100000 < N) : sha_More N ((crcOf p : Int), q) = some ((crcOf (p ++ q) : Nat) : Int) := by
  rw [more_ok hq (by omega) (crcOf_lt hp) (by omega)]
  unfold crcOf
  rw [flip_flip, crc_append]

/-! Climbing leads to the root -/

theorem climb_root {N : Nat} : ∀ (f : Nat) (l : List (List Int)) (i : Nat), l.length < f → f ≤ N → i < l.length → (sd f i l.length).length = (pth (rt N) f l (i : Int)).2.length ∧ fd (sd f i l.length) (pth (rt N) f l (i : Int)).2 (l.getD i z32) = rt f l
  | 0, _, _, h, _, _ => by omega
  | f + 1, l, i, h, hN, hi => by
    have c0 : ¬ ((i : Int) < 0 ∨ (l.length : Int) ≤ (i : Int)) := by omega
    have c1 : ¬ l.length = 0 := by omega
    have ih := climb_root (N := N) f
    have hst : ∀ m : List (List Int), m.length < f → rt N m = rt f m := fun m hm => rt_stable N f m (by omega) hm
    generalize rt N = R at ih hst ⊢
    unfold sd pth rt
    simp only [if_neg c0, if_neg c1]
    by_cases e : l.length = 1
    · simp only [if_pos e]
      have : i = 0 := by omega
      subst this
      exact ⟨rfl, rfl⟩
    have hb := half_bd (n := l.length) (by omega)
    have hlt1 : (l.take (halfN l.length)).length = halfN l.length := by rw [List.length_take]; omega
    have hlt2 : (l.drop (halfN l.length)).length = l.length - halfN l.length := by rw [List.length_drop]
    simp only [if_neg e]
    by_cases c : i < halfN l.length
    · have c' : (i : Int) < ((halfN l.length : Nat) : Int) := by omega
      obtain ⟨h1, h2⟩ := ih (l.take (halfN l.length)) i (by omega) (by omega) (by omega)
      simp only [if_pos c, if_pos c']
      rw [hlt1] at h1 h2
      refine ⟨by simp [h1], ?_⟩
      have e1 : (l.take (halfN l.length)).getD i z32 = l.getD i z32 := by
        rw [List.getD, List.getD, List.getElem?_take, if_pos c]
      rw [fd_append _ _ _ _ _ h1, ← e1, h2, hst (l.drop (halfN l.length)) (by omega)]
      rfl
    · have c' : ¬ (i : Int) < ((halfN l.length : Nat) : Int) := by omega
      obtain ⟨h1, h2⟩ := ih (l.drop (halfN l.length)) (i - halfN l.length) (by omega) (by omega) (by omega)
      simp only [if_neg c, if_neg c']
      rw [show (i : Int) - ((halfN l.length : Nat) : Int) = ((i - halfN l.length : Nat) : Int) by omega]
      rw [hlt2] at h1 h2
      refine ⟨by simp [h1], ?_⟩
      have e1 : (l.drop (halfN l.length)).getD (i - halfN l.length) z32 = l.getD i z32 := by
        rw [List.getD, List.getD, List.getElem?_drop]
        congr 2; omega
      rw [fd_append _ _ _ _ _ h1, ← e1, h2, hst (l.take (halfN l.length)) (by omega)]
      rfl

theorem pth_ok {R : List (List Int) → List Int} {f : Nat} {l : List (List Int)} {i : Nat} (h : i < l.length) (hf : l.length < f) : (pth R f l (i : Int)).1 = 0 := by
  cases f with
  | zero => omega
  | succ f =>
    unfold pth
    rw [if_neg (by omega)]
    split
    · rfl
    · split <;> rfl

theorem pth_dg {N : Nat} : ∀ (f : Nat) (l : List (List Int)) (i : Int), l.length < f → f ≤ N → Dg l → Dg (pth (rt N) f l i).2
  | 0, _, _, h, _, _ => by omega
  | f + 1, l, i, h, hN, hd => by
    unfold pth
    split
    · intro x hx; cases hx
    · rename_i hi
      split
      · intro x hx; cases hx
      · have hb := half_bd (n := l.length) (by omega)
        split
        · intro x hx
          simp only [List.mem_append, List.mem_singleton] at hx
          rcases hx with hx | rfl
          · exact pth_dg f _ _ (by rw [List.length_take]; omega) (by omega) (hd.take _) x hx
          · exact rt_length _ _ (hd.drop _) (by rw [List.length_drop]; omega)
        · intro x hx
          simp only [List.mem_append, List.mem_singleton] at hx
          rcases hx with hx | rfl
          · exact pth_dg f _ _ (by rw [List.length_drop]; omega) (by omega) (hd.drop _) x hx
          · exact rt_length _ _ (hd.take _) (by rw [List.length_take]; omega)

end Sha
end Go.Rf.W
