/-
  Package rpc: what is put comes back: credentials.
-/
import Derived.Test.YtngehbaakpkoiaaPlRpcBackC
set_option linter.unusedVariables false
set_option linter.unusedSimpArgs false
set_option maxRecDepth 10000
namespace Go.Rf.W.Pure
open Go Go.Rf Go.Rf.W

def gidB (l : List Int) : List Int := (l.map fun x => be 4 x.toNat).flatten

theorem wI_enc {l : List Int} {s : Int × List Int} (h : s.1 = 0) : ∀ i, i ≤ l.length → wI l s i = (0, s.2 ++ gidB (l.take i))
  | 0, _ => by
    show s = _
    obtain ⟨e, b⟩ := s
    dsimp only at h
    subst h
    simp [gidB]
  | i + 1, hi => by
    show wU (l.getD i 0).toNat (wI l s i) = _
    rw [wI_enc h i (by omega)]
    have t : l.take (i + 1) = l.take i ++ [l.getD i 0] := by
      rw [List.take_add_one, List.getD, List.getElem?_eq_getElem (by omega)]; rfl
    unfold wU
    rw [if_pos rfl, t]
    simp [gidB]

def credB (c u g : Nat) (m : List UInt8) (l : List Int) : List Int := be 4 c ++ (encT m ++ (be 4 u ++ (be 4 g ++ (be 4 l.length ++ gidB l))))

theorem putCred_ok {N f c u g : Nat} {m : List UInt8} {l : List Int} (hc : c < 4294967296) (hu : u < 4294967296) (hg : g < 4294967296) (hm : m.length ≤ 30000) (hl : ∀ x ∈ l, 0 ≤ x ∧ x < 4294967296) (hll : l.length ≤ 20000) (hN : 100 < N) :
    ∃ r, rpc_PutCred N ((f : Int), (c : Int), m, (u : Int), (g : Int), l) = some r ∧
      (r.2.1 = 0 → ((f = 0 ∧ c = 0 ∧ m = [] ∧ u = 0 ∧ g = 0 ∧ l = [] ∧ r.1 = 0 ∧ r.2.2 = []) ∨ (f = 1 ∧ m.length ≤ 64 ∧ l.length ≤ 16 ∧ r.1 = 1 ∧ r.2.2 = credB c u g m l))) ∧ (r.2.1 ≠ 0 → r.1 = 0 ∧ r.2.2 = []) := by
  unfold rpc_PutCred
  dsimp only
  by_cases h0 : (f : Int) = 0
  · rw [deT h0, cond_true]
    by_cases c1 : (c : Int) = 0
    rotate_left
    · rw [deF c1]; exact ⟨_, rfl, fun h => (by cases h), fun _ => ⟨rfl, rfl⟩⟩
    by_cases c2 : m = []
    rotate_left
    · rw [deT c1, deF c2]; exact ⟨_, rfl, fun h => (by cases h), fun _ => ⟨rfl, rfl⟩⟩
    by_cases c3 : (u : Int) = 0
    rotate_left
    · rw [deT c1, deT c2, deF c3]; exact ⟨_, rfl, fun h => (by cases h), fun _ => ⟨rfl, rfl⟩⟩
    by_cases c4 : (g : Int) = 0
    rotate_left
    · rw [deT c1, deT c2, deT c3, deF c4]; exact ⟨_, rfl, fun h => (by cases h), fun _ => ⟨rfl, rfl⟩⟩
    by_cases c5 : l.length = 0
    rotate_left
    · rw [deT c1, deT c2, deT c3, deT c4, deT (p := (0 : Int) < ((l.length : Nat) : Int)) (by omega)]; exact ⟨_, rfl, fun h => (by cases h), fun _ => ⟨rfl, rfl⟩⟩
    rw [deT c1, deT c2, deT c3, deT c4, deF (p := (0 : Int) < ((l.length : Nat) : Int)) (by omega)]
    exact ⟨_, rfl, fun _ => .inl ⟨by omega, by omega, c2, by omega, by omega, List.length_eq_zero_iff.1 c5, rfl, rfl⟩, fun h => absurd rfl h⟩
  rw [deF h0, cond_false]
  by_cases h1 : (f : Int) = 1
  rotate_left
  · rw [deF h1]; exact ⟨_, rfl, fun h => (by cases h), fun _ => ⟨rfl, rfl⟩⟩
  rw [deT h1, cond_true, show xdr_NewWriter () = some () from rfl, Option.bind_some, wuint0_ok hc (by omega), Option.bind_some]
  have e0 : wU c (0, []) = (0, be 4 c) := rfl
  rw [e0]
  unfold xdr_Writer_Text
  dsimp only
  have hmo : (List.map (fun b : UInt8 => (b.toNat : Int)) m).length = m.length := List.length_map ..
  have hO := wopaque1v (N := N) (l := List.map (fun b : UInt8 => (b.toNat : Int)) m) (M := 64) (s := (0, be 4 c)) (by rw [hmo]; simp; omega) (by omega)
  dsimp only at hO
  rw [hO, Option.bind_some, Option.bind_some]
  by_cases h2 : m.length ≤ 64
  rotate_left
  · have ew : wO (List.map (fun b : UInt8 => (b.toNat : Int)) m) 64 (0, be 4 c) = (1, be 4 c) := by
      unfold wO
      rw [if_pos rfl, if_pos (by rw [hmo]; omega)]
    rw [ew]
    have w1 := wuint1 (N := N) (n := u) (s := (1, be 4 c)) (by omega) (by simp) (by omega)
    have w2 := wuint1 (N := N) (n := g) (s := (1, be 4 c)) (by omega) (by simp) (by omega)
    have w3 := putList_ok (N := N) (l := l) (s := (1, be 4 c)) hl (by omega) (by simp) hN
    have b1 : ∀ n, wU n ((1 : Int), be 4 c) = (1, be 4 c) := fun _ => rfl
    rw [b1] at w1 w2
    have h10 : ¬ (((1 : Int), be 4 c).1 = 0) := (by decide : ¬ ((1 : Int) = 0))
    rw [if_neg h10] at w3
    dsimp only at w1 w2 w3 ⊢
    rw [w1, Option.bind_some]
    dsimp only
    rw [w2, Option.bind_some]
    dsimp only
    rw [w3, Option.bind_some]
    exact ⟨_, rfl, fun h => (by cases h), fun _ => ⟨rfl, rfl⟩⟩
  have hT : encT m = encB (List.map (fun b : UInt8 => (b.toNat : Int)) m) := rfl
  have hTl := encT_length m
  have hpm := padn_lt m.length
  have ew : wO (List.map (fun b : UInt8 => (b.toNat : Int)) m) 64 (0, be 4 c) = (0, be 4 c ++ encT m) := by
    unfold wO
    rw [if_pos rfl, if_neg (by rw [hmo]; omega)]
    rfl
  rw [ew]
  have w1 := wuint1 (N := N) (n := u) (s := (0, be 4 c ++ encT m)) (by omega) (by simp; omega) (by omega)
  have w2 := wuint1 (N := N) (n := g) (s := (0, be 4 c ++ encT m ++ be 4 u)) (by omega) (by simp; omega) (by omega)
  have w3 := putList_ok (N := N) (l := l) (s := (0, be 4 c ++ encT m ++ be 4 u ++ be 4 g)) hl (by omega) (by simp; omega) hN
  have b1 : ∀ n b, wU n ((0 : Int), b) = (0, b ++ be 4 n) := fun _ _ => rfl
  rw [b1] at w1 w2
  rw [if_pos rfl] at w3
  dsimp only at w1 w2 w3 ⊢
  rw [w1, Option.bind_some]
  dsimp only
  rw [w2, Option.bind_some]
  dsimp only
  rw [w3, Option.bind_some]
  by_cases h3 : l.length ≤ 16
  rotate_left
  · rw [if_pos (by omega)]
    exact ⟨_, rfl, fun h => (by cases h), fun _ => ⟨rfl, rfl⟩⟩
  rw [if_neg (by omega), b1, wI_enc rfl l.length (Nat.le_refl _), List.take_length]
  have hgl : (gidB l).length = 4 * l.length := by
    unfold gidB
    induction l with
    | nil => rfl
    | cons x l ih =>
      have := ih (fun y hy => hl y (List.mem_cons_of_mem _ hy)) (by simp at hll; omega) (by
        have := putList_ok (N := N) (l := l) (s := (0, be 4 c ++ encT m ++ be 4 u ++ be 4 g)) (fun y hy => hl y (List.mem_cons_of_mem _ hy)) (by simp at hll; omega) (by simp; omega) hN
        rw [if_pos rfl] at this
        exact this) (by simp at h3; omega)
      rw [List.map_cons, List.flatten_cons, List.length_append, this]
      simp; omega
  unfold xdr_Writer_Why xdr_Writer_Bytes
  dsimp only
  rw [Option.bind_some]
  dsimp only
  rw [deS, Bool.not_true, cond_false, clone_ok (by simp [hgl]; omega)]
  refine ⟨_, rfl, fun _ => .inr ⟨by omega, h2, h3, rfl, ?_⟩, fun h => absurd rfl h⟩
  show be 4 c ++ encT m ++ be 4 u ++ be 4 g ++ be 4 l.length ++ gidB l = credB c u g m l
  unfold credB
  simp only [List.append_assoc]

theorem gidB_len (l : List Int) : (gidB l).length = 4 * l.length := by
  unfold gidB
  induction l with
  | nil => rfl
  | cons x l ih => rw [List.map_cons, List.flatten_cons, List.length_append, ih]; simp; omega

theorem gidB_drop : ∀ (l : List Int) (i : Nat) (h : i < l.length), (gidB l).drop (4 * i) = be 4 (l[i]).toNat ++ (gidB l).drop (4 * (i + 1))
  | x :: l, 0, h => by
    have e : gidB (x :: l) = be 4 x.toNat ++ gidB l := by simp [gidB]
    rw [e]
    show be 4 x.toNat ++ gidB l = be 4 x.toNat ++ _
    congr 1
  | x :: l, i + 1, h => by
    have e : gidB (x :: l) = be 4 x.toNat ++ gidB l := by simp [gidB]
    have hd : ∀ k, (be 4 x.toNat ++ gidB l).drop (4 + k) = (gidB l).drop k := fun k => by
      rw [← List.drop_drop, show (be 4 x.toNat ++ gidB l).drop 4 = gidB l from List.drop_left' (by simp)]
    have ih := gidB_drop l i (by simpa using h)
    rw [e, show 4 * (i + 1) = 4 + 4 * i by omega, show 4 * (i + 1 + 1) = 4 + 4 * (i + 1) by omega, hd, hd, ih]
    rfl

theorem fits4 {n : Nat} (h : n < 1000000) : fits 4 n = true := by simp [fits]; omega

theorem gids_at {N a : Nat} {p : Int} {D l : List Int} (hb : Bts D) (hD : D.length < 1000000) (hN : 100 < N) (ha : a ≤ D.length) (hl : ∀ x ∈ l, 0 ≤ x ∧ x < 4294967296) (h16 : l.length ≤ 16) (h : D.drop a = be 4 l.length ++ gidB l) :
    xdr_List_uint32 N (16, (a : Int), 0, p, D) = some (((D.length : Nat) : Int), 0, p, D, l) := by
  obtain ⟨e1, e2, e3⟩ := uint_at (N := N) (p := p) hb hD (by omega) ha (by omega) h
  have hlen := drop_len e2 e3
  rw [gidB_len] at hlen
  have hnum : numAt D a = l.length := numAt_enc h (by omega)
  have key : xdr_List_uint32_l0 N ((l.length : Int), 0, ((a + 4 : Nat) : Int), 0, p, D, []) = some (((D.length : Nat) : Int), 0, p, D, l) := by
    refine r_iter (b := xdr_List_uint32_b0 N) (r := (((D.length : Nat) : Int), 0, p, D, l)) (fun i => ((l.length : Int), (i : Int), ((a + 4 + 4 * i : Nat) : Int), 0, p, D, l.take i)) l.length (fun i hi nx => ?_) (fun nx => ?_) N (by omega)
    · have hx := hl _ (List.getElem_mem hi)
      have hdr : D.drop (a + 4 + 4 * i) = be 4 (l[i]).toNat ++ (gidB l).drop (4 * (i + 1)) := by
        rw [← List.drop_drop, e2, gidB_drop l i hi]
      obtain ⟨f1, f2, f3⟩ := uint_at (N := N) (p := p) hb hD (by omega) (by omega) (by omega) hdr
      unfold xdr_List_uint32_b0 xdr_Reader_bad rpc_getGid
      dsimp only
      rw [deT (p := (i : Int) < (l.length : Int)) (by omega), cond_true, Option.bind_some]
      dsimp only
      have hti : (List.take i l).length = i := by rw [List.length_take]; omega
      rw [deS, Bool.not_true, cond_false, f1, Option.bind_some, Option.bind_some]
      dsimp only
      rw [show decide (1 ≤ [((l[i].toNat : Nat) : Int)].length) = true from rfl, show List.take 1 (List.drop 0 [((l[i].toNat : Nat) : Int)]) = [((l[i].toNat : Nat) : Int)] from rfl, fits4 (by rw [hti]; simp; omega), Bool.and_self, cond_true, wrapF_i64 (by omega) (by omega)]
      have t : l.take (i + 1) = l.take i ++ [((l[i].toNat : Nat) : Int)] := by
        rw [List.take_add_one, List.getElem?_eq_getElem hi]
        show _ ++ [l[i]] = _
        rw [show ((l[i].toNat : Nat) : Int) = l[i] by omega]
      rw [t, show (i : Int) + 1 = ((i + 1 : Nat) : Int) by omega, show a + 4 + 4 * (i + 1) = a + 4 + 4 * i + 4 by omega]
    · unfold xdr_List_uint32_b0
      dsimp only
      rw [deF (by omega), cond_false, List.take_length, show a + 4 + 4 * l.length = D.length by omega]
  unfold xdr_List_uint32
  dsimp only
  rw [length_ok hb ha hD (by omega), if_neg (by omega), hnum, if_neg (by omega), Option.bind_some]
  dsimp only
  rw [key, Option.bind_some]
  rfl

theorem getCred_at {N c u g : Nat} {m : List UInt8} {l D : List Int} (hc : c < 4294967296) (hu : u < 4294967296) (hg : g < 4294967296) (hm : m.length ≤ 64) (hl : ∀ x ∈ l, 0 ≤ x ∧ x < 4294967296) (h16 : l.length ≤ 16) (hb : Bts D) (hD : D.length < 1000000) (hN : 100 < N) (hd : D = credB c u g m l) :
    rpc_GetCred N (1, D) = some (1, (c : Int), m, (u : Int), (g : Int), 0, l) := by
  have d0 : D.drop 0 = be 4 c ++ _ := hd
  obtain ⟨a1, d1, l1⟩ := uint_at (N := N) (p := 0) hb hD (by omega) (Nat.zero_le _) hc d0
  have a2 := text_enc (N := N) (p := 0) (M := 64) hb l1 hD (by omega) d1 (by omega)
  have d2 := drop_more d1
  have l2 := drop_len d1 l1
  rw [List.length_append] at l2
  have l2' : 0 + 4 + (encT m).length ≤ D.length := by omega
  obtain ⟨a3, d3, l3⟩ := uint_at (N := N) (p := 0) hb hD (by omega) l2' hu d2
  obtain ⟨a4, d4, l4⟩ := uint_at (N := N) (p := 0) hb hD (by omega) l3 hg d3
  have a5 := gids_at (N := N) (p := 0) hb hD hN l4 hl h16 d4
  have a1 : xdr_Reader_Uint N (0, 0, 0, D) = _ := a1
  unfold rpc_GetCred xdr_NewReader
  dsimp only
  rw [show decide ((1 : Int) = 0) = false from rfl, cond_false, deS, cond_true, clone1_ok hD, Option.bind_some, Option.bind_some, a1, Option.bind_some]
  dsimp only
  rw [a2, Option.bind_some]
  dsimp only
  rw [a3, Option.bind_some]
  dsimp only
  rw [a4, Option.bind_some]
  dsimp only
  rw [a5, Option.bind_some]
  dsimp only
  have hdone : xdr_Reader_Done (((D.length : Nat) : Int), 0, 0, D) = some (0, ((D.length : Nat) : Int), 0, 0, D) := by
    unfold xdr_Reader_Done
    dsimp only
    rw [deS, cond_true, deF (p := ((D.length : Nat) : Int) < ((D.length : Nat) : Int)) (by omega)]
    rfl
  rw [hdone, Option.bind_some]
  rfl

theorem gidB_bts (l : List Int) : Bts (gidB l) := fun x hx => by
  obtain ⟨y, hy, hx⟩ := List.mem_flatten.1 hx
  obtain ⟨n, _, rfl⟩ := List.mem_map.1 hy
  exact be_bytes 4 _ x hx
theorem credB_bts {c u g : Nat} {m : List UInt8} {l : List Int} : Bts (credB c u g m l) :=
  bts_app (be_bts _ _) (bts_app (encT_bts m) (bts_app (be_bts _ _) (bts_app (be_bts _ _) (bts_app (be_bts _ _) (gidB_bts l)))))
theorem credB_len {c u g : Nat} {m : List UInt8} {l : List Int} : (credB c u g m l).length ≤ 30 + m.length + 4 * l.length := by
  have h1 := encT_length m
  have h2 := padn_lt m.length
  have h3 := gidB_len l
  unfold credB
  simp only [List.length_append, be_length]
  omega

end Go.Rf.W.Pure
