/-
  Package rpc: replies, written.
-/
import Derived.Test.YtngehbaakpkoiaaPlRpcWn
set_option linter.unusedVariables false
set_option linter.unusedSimpArgs false
set_option maxRecDepth 10000
namespace Go.Rf.W.Pure
open Go Go.Rf Go.Rf.W

/-- A reply that says what its kind says, and nothing else. -/
def okR (k lo hi why : Int) (n : Nat) : Bool :=
  bif decide (k = 0) then (decide (lo = 0) && (decide (hi = 0) && decide (why = 0)))
  else bif decide (k = 2) then (decide (why = 0) && decide ((n : Int) = 0))
  else bif decide (k = 6) then (decide (why = 0) && decide ((n : Int) = 0))
  else bif decide (k = 7) then (decide (lo = 0) && (decide (hi = 0) && decide ((n : Int) = 0)))
  else bif (decide (k = 1) || (decide (k = 3) || (decide (k = 4) || decide (k = 5)))) then (decide (lo = 0) && (decide (hi = 0) && (decide (why = 0) && decide ((n : Int) = 0))))
  else false

def wds (x lo hi why : Nat) (k : Int) : List Nat :=
  if k = 6 then [x, 1, 1, 0, lo, hi] else if k = 7 then [x, 1, 1, 1, why] else if k = 2 then [x, 1, 0, 0, 0, 2, lo, hi] else [x, 1, 0, 0, 0, k.toNat]

def encR (x lo hi why : Nat) (k : Int) (data : List Int) : List Int := ((wds x lo hi why k).map (be 4)).flatten ++ data

theorem ok_kind {k lo hi why : Int} {n : Nat} (h : okR k lo hi why n = true) : k = 0 ∨ k = 1 ∨ k = 2 ∨ k = 3 ∨ k = 4 ∨ k = 5 ∨ k = 6 ∨ k = 7 := by
  unfold okR at h
  by_cases h0 : k = 0
  · exact .inl h0
  rw [deF h0, cond_false] at h
  by_cases h2 : k = 2
  · exact .inr (.inr (.inl h2))
  rw [deF h2, cond_false] at h
  by_cases h6 : k = 6
  · exact .inr (.inr (.inr (.inr (.inr (.inr (.inl h6))))))
  rw [deF h6, cond_false] at h
  by_cases h7 : k = 7
  · exact .inr (.inr (.inr (.inr (.inr (.inr (.inr h7))))))
  rw [deF h7, cond_false] at h
  by_cases h1 : k = 1
  · exact .inr (.inl h1)
  by_cases h3 : k = 3
  · exact .inr (.inr (.inr (.inl h3)))
  by_cases h4 : k = 4
  · exact .inr (.inr (.inr (.inr (.inl h4))))
  by_cases h5 : k = 5
  · exact .inr (.inr (.inr (.inr (.inr (.inl h5)))))
  rw [deF h1, deF h3, deF h4, deF h5] at h
  cases h

theorem whole_ok (x k lo hi why : Int) (data : List Int) : rpc_whole (x, k, lo, hi, why, data) = some (okR k lo hi why data.length) := by
  unfold rpc_whole okR
  dsimp only
  by_cases h0 : k = 0
  · rw [deT h0, cond_true, cond_true, Option.bind_some]
    dsimp only
    rw [Option.bind_some]
    dsimp only
    rw [deS]
    cases decide (lo = 0) <;> cases decide (hi = 0) <;> cases decide (why = 0) <;> rfl
  rw [deF h0, cond_false, cond_false]
  by_cases h2 : k = 2
  · rw [deT h2, cond_true, cond_true, Option.bind_some]
    dsimp only
    rw [Option.bind_some]
    dsimp only
    rw [deS, deS]
    show ((bif true then bif true then bif decide (why = 0) then some (decide (((data.length : Nat) : Int) = 0)) else some false else some false else some false).bind fun r27 => some r27) = _
    cases decide (why = 0) <;> cases decide (((data.length : Nat) : Int) = 0) <;> rfl
  rw [deF h2, cond_false, cond_false]
  by_cases h6 : k = 6
  · rw [deT h6, cond_true, cond_true, Option.bind_some]
    dsimp only
    rw [Option.bind_some]
    dsimp only
    rw [deS, deS]
    show ((bif true then bif true then bif decide (why = 0) then some (decide (((data.length : Nat) : Int) = 0)) else some false else some false else some false).bind fun r27 => some r27) = _
    cases decide (why = 0) <;> cases decide (((data.length : Nat) : Int) = 0) <;> rfl
  rw [deF h6, cond_false, cond_false]
  by_cases h7 : k = 7
  · rw [deT h7, cond_true, cond_true, Option.bind_some]
    dsimp only
    rw [Option.bind_some]
    dsimp only
    rw [deS]
    show ((bif decide (lo = 0) then bif decide (hi = 0) then bif true then some (decide (((data.length : Nat) : Int) = 0)) else some false else some false else some false).bind fun r27 => some r27) = _
    cases decide (lo = 0) <;> cases decide (hi = 0) <;> cases decide (((data.length : Nat) : Int) = 0) <;> rfl
  rw [deF h7, cond_false, cond_false]
  have key : ∀ z : Option (Unit ⊕ List Int ⊕ Unit ⊕ Unit ⊕ Unit), z = some (.inr (.inr (.inr (.inl ())))) → (decide (k = 1) || (decide (k = 3) || (decide (k = 4) || decide (k = 5)))) = true →
      ((z.bind fun r9 => match r9 with
        | .inl y10 => some (.inl (lo, hi, (0 : Int), ([] : List Int)))
        | .inr z11 => match z11 with
          | .inl y12 => some (.inl ((0 : Int), (0 : Int), (0 : Int), y12))
          | .inr z13 => match z13 with
            | .inl y14 => some (.inl ((0 : Int), (0 : Int), why, ([] : List Int)))
            | .inr z15 => match z15 with
              | .inl y16 => some (.inl ((0 : Int), (0 : Int), (0 : Int), ([] : List Int)))
              | .inr z17 => (some (.inr (())) : Option ((Int × Int × Int × (List Int)) ⊕ (Unit)))).bind fun r18 => match r18 with
          | .inl y19 => (bif decide (lo = y19.1) then bif decide (hi = y19.2.1) then bif decide (why = y19.2.2.1) then some (decide (((data.length : Nat) : Int) = ((y19.2.2.2.length : Nat) : Int))) else some false else some false else some false).bind fun r27 => some r27
          | .inr z20 => some false) = some (bif (decide (k = 1) || (decide (k = 3) || (decide (k = 4) || decide (k = 5)))) then (decide (lo = 0) && (decide (hi = 0) && (decide (why = 0) && decide (((data.length : Nat) : Int) = 0)))) else false) := by
    intro z hz hb
    rw [hz, hb, Option.bind_some]
    dsimp only
    rw [Option.bind_some]
    show ((bif decide (lo = 0) then bif decide (hi = 0) then bif decide (why = 0) then some (decide (((data.length : Nat) : Int) = 0)) else some false else some false else some false).bind fun r27 => some r27) = _
    cases decide (lo = 0) <;> cases decide (hi = 0) <;> cases decide (why = 0) <;> cases decide (((data.length : Nat) : Int) = 0) <;> rfl
  by_cases h1 : k = 1
  · exact key _ (by rw [deT h1, cond_true]) (by rw [deT h1]; rfl)
  by_cases h3 : k = 3
  · exact key _ (by rw [deF h1, deT h3, cond_true, cond_false]) (by rw [deF h1, deT h3]; rfl)
  by_cases h4 : k = 4
  · exact key _ (by rw [deF h1, deF h3, deT h4, cond_true, cond_false, cond_false]) (by rw [deF h1, deF h3, deT h4]; rfl)
  by_cases h5 : k = 5
  · exact key _ (by rw [deF h1, deF h3, deF h4, deT h5, cond_true, cond_false, cond_false, cond_false]) (by rw [deF h1, deF h3, deF h4, deT h5]; rfl)
  rw [deF h1, deF h3, deF h4, deF h5]
  rfl

theorem reply_loop {N n : Nat} {l : List Nat} {L : List Int} (hl : ∀ i, i < n → List.getD L i (EK.dflt (.int .u32)) = ((l.getD i 0 : Nat) : Int)) (hb : ∀ i, i < n → l.getD i 0 < 4294967296) (h6 : L.length = n) (h8 : n ≤ 8) (hN : 8 < N) :
    rpc_PutReply_l1 N (0, n, (n : Int), (0 : Int), (0 : Int), L, []) = some ((wN l n).1, L, (wN l n).2) := by
  refine r_iter (b := rpc_PutReply_b1 N) (r := ((wN l n).1, L, (wN l n).2)) (fun i => (0, n, (n : Int), (i : Int), (wN l i).1, L, (wN l i).2)) n (fun i hi nx => ?_) (fun nx => ?_) N (by omega)
  · unfold rpc_PutReply_b1
    dsimp only
    have hlen := wN_len l i
    rw [deT (p := (i : Int) < (n : Int)) (by omega), cond_true, deT (p := (0 : Int) ≤ (i : Int)) (by omega), Bool.and_self, cond_true, Int.toNat_natCast, Nat.add_zero, deT (p := i < L.length) (by omega), cond_true, hl i hi, wuint1 (by have := hb i hi; omega) (by omega) hN, Option.bind_some, wrapF_i64 (by omega) (by omega)]
    rfl
  · unfold rpc_PutReply_b1
    dsimp only
    rw [deF (by omega), cond_false]

theorem put_end {N n : Nat} {l : List Nat} {L data : List Int} (hl : ∀ i, i < n → List.getD L i (EK.dflt (.int .u32)) = ((l.getD i 0 : Nat) : Int)) (hb : ∀ i, i < n → l.getD i 0 < 4294967296) (h6 : L.length = n) (hn : l.length = n) (h8 : n ≤ 8) (hd : data.length < 500000) (hN : 8 < N) :
    ((rpc_PutReply_l1 N (0, n, ((n : Nat) : Int), (0 : Int), (0 : Int), L, ([] : List Int))).bind fun r17 =>
      (xdr_Writer_Bytes (r17.1, r17.2.2)).bind fun r18 =>
        bif fits 1 (r18.2.2.length + data.length) then some ((0 : Int), r18.2.2 ++ data) else none) = some (0, (l.map (be 4)).flatten ++ data) := by
  have e := wN_enc l n (by omega)
  have hlen := wN_len l n
  rw [reply_loop hl hb h6 h8 hN, Option.bind_some]
  unfold xdr_Writer_Bytes
  dsimp only
  rw [clone_ok (by omega), Option.bind_some, Option.bind_some]
  dsimp only
  rw [fits1 (by omega), cond_true, e, List.take_of_length_le (by omega)]

theorem get6 {l : List Nat} {L : List Int} {n : Nat} (h : L = l.map fun (m : Nat) => (m : Int)) (hn : l.length = n) : ∀ i, i < n → List.getD L i (EK.dflt (.int .u32)) = ((l.getD i 0 : Nat) : Int) := fun i hi => by
  subst h
  rw [List.getD, List.getD, List.getElem?_map, List.getElem?_eq_getElem (by omega)]
  rfl

theorem bnd {l : List Nat} {n : Nat} (h : ∀ x ∈ l, x < 4294967296) (hn : l.length = n) : ∀ i, i < n → l.getD i 0 < 4294967296 := fun i hi => by
  rw [List.getD, List.getElem?_eq_getElem (by omega)]
  exact h _ (List.getElem_mem _)

theorem wds_bnd {x lo hi why : Nat} {k : Int} (hx : x < 4294967296) (hl : lo < 4294967296) (hh : hi < 4294967296) (hy : why < 4294967296) (hk : k = 0 ∨ k = 1 ∨ k = 2 ∨ k = 3 ∨ k = 4 ∨ k = 5 ∨ k = 6 ∨ k = 7) : ∀ y ∈ wds x lo hi why k, y < 4294967296 := by
  intro y hy2
  unfold wds at hy2
  split at hy2
  · simp at hy2; omega
  split at hy2
  · simp at hy2; omega
  split at hy2
  · simp at hy2; omega
  · simp at hy2; omega

theorem putReply_ok {N x lo hi why : Nat} {k : Int} {data : List Int} (hx : x < 4294967296) (hl : lo < 4294967296) (hh : hi < 4294967296) (hy : why < 4294967296) (hd : data.length < 500000) (hN : 8 < N) :
    rpc_PutReply N ((x : Int), k, (lo : Int), (hi : Int), (why : Int), data) = some (bif okR k lo hi why data.length then (0, encR x lo hi why k data) else (2, [])) := by
  unfold rpc_PutReply
  dsimp only
  rw [whole_ok, Option.bind_some]
  cases ho : okR k lo hi why data.length with
  | false => rfl
  | true =>
    have hk := ok_kind ho
    have hb := wds_bnd hx hl hh hy hk
    unfold encR
    unfold wds at hb ⊢
    rw [Bool.not_true, cond_false, cond_true, show xdr_NewWriter () = some () from rfl, Option.bind_some]
    by_cases h6 : k = 6
    · rw [if_pos h6] at hb ⊢
      rw [deT h6, cond_true, Option.bind_some]
      exact put_end (N := N) (n := 6) (L := [(x : Int), 1, 1, 0, (lo : Int), (hi : Int)]) (l := [x, 1, 1, 0, lo, hi]) (get6 rfl rfl) (bnd hb rfl) rfl rfl (by omega) hd hN
    rw [if_neg h6] at hb ⊢
    rw [deF h6, cond_false]
    by_cases h7 : k = 7
    · rw [if_pos h7] at hb ⊢
      rw [deT h7, cond_true, Option.bind_some, Option.bind_some]
      exact put_end (N := N) (n := 5) (L := [(x : Int), 1, 1, 1, (why : Int)]) (l := [x, 1, 1, 1, why]) (get6 rfl rfl) (bnd hb rfl) rfl rfl (by omega) hd hN
    rw [if_neg h7] at hb ⊢
    rw [deF h7, cond_false]
    by_cases h2 : k = 2
    · rw [if_pos h2] at hb ⊢
      subst h2
      rw [deS, cond_true]
      exact put_end (N := N) (n := 8) (L := [(x : Int), 1, 0, 0, 0, 2, (lo : Int), (hi : Int)]) (l := [x, 1, 0, 0, 0, 2, lo, hi]) (get6 rfl rfl) (bnd hb rfl) rfl rfl (by omega) hd hN
    rw [if_neg h2] at hb ⊢
    rw [deF h2, cond_false, Option.bind_some, Option.bind_some, Option.bind_some]
    have ek : wrapF .u32 k = ((k.toNat : Nat) : Int) := by rw [wrapF_u32 (by omega) (by omega)]; omega
    rw [ek]
    exact put_end (N := N) (n := 6) (L := [(x : Int), 1, 0, 0, 0, ((k.toNat : Nat) : Int)]) (l := [x, 1, 0, 0, 0, k.toNat]) (get6 rfl rfl) (bnd hb rfl) rfl rfl (by omega) hd hN

theorem putReply1_eq (N : Nat) : rpc_PutReply_v1 N = rpc_PutReply N := rfl

theorem rvalid {R : Type} {k lo hi why : Int} {n : Nat} {f : Bool → Option R} {z : Bool} (hz : z = (decide (k = 2) || decide (k = 6))) :
    (Option.bind
  (cond (decide (k < (0 : Int)))
  (some true)
  (cond (decide ((7 : Int) < k))
  (some true)
  (cond (!z)
  (cond (!(decide (lo = (0 : Int))))
  (some true)
  (cond (!(decide (hi = (0 : Int))))
  (some true)
  (cond (!(decide (k = (7 : Int))))
  (cond (!(decide (why = (0 : Int))))
  (some true)
  (cond (!(decide (k = (0 : Int))))
  (some (!(decide ((((n) : Nat) : Int) = (0 : Int)))))
  (some false)))
  (cond (!(decide (k = (0 : Int))))
  (some (!(decide ((((n) : Nat) : Int) = (0 : Int)))))
  (some false)))))
  (cond (!(decide (k = (7 : Int))))
  (cond (!(decide (why = (0 : Int))))
  (some true)
  (cond (!(decide (k = (0 : Int))))
  (some (!(decide ((((n) : Nat) : Int) = (0 : Int)))))
  (some false)))
  (cond (!(decide (k = (0 : Int))))
  (some (!(decide ((((n) : Nat) : Int) = (0 : Int)))))
  (some false)))))) f) = f (!(okR k lo hi why n)) := by
  subst hz
  by_cases hk : k = 0 ∨ k = 1 ∨ k = 2 ∨ k = 3 ∨ k = 4 ∨ k = 5 ∨ k = 6 ∨ k = 7
  · unfold okR
    rcases hk with rfl | rfl | rfl | rfl | rfl | rfl | rfl | rfl <;> generalize decide (lo = 0) = b1 <;> generalize decide (hi = 0) = b2 <;> generalize decide (why = 0) = b3 <;> generalize decide ((n : Int) = 0) = b4 <;>
      cases b1 <;> cases b2 <;> cases b3 <;> cases b4 <;> rfl
  · have ho : okR k lo hi why n = false := by
      cases h : okR k lo hi why n with
      | false => rfl
      | true => exact absurd (ok_kind h) hk
    rw [ho]
    by_cases h0 : k < 0
    · rw [deT h0]; rfl
    · rw [deF h0, deT (p := 7 < k) (by omega)]; rfl

theorem steps {l : List Nat} {i n : Nat} {s t : Int × List Int} (hs : s = wN l i) (hn : l.getD i 0 = n) (h8 : i ≤ 8) : granaryref01_Writer_Uint_v1 ((n : Int), s.1, s.2) = some (wN l (i + 1)) := by
  subst hs
  have hlen := wN_len l i
  rw [rwuint1 (n := n) (by omega)]
  show _ = some (wU (l.getD i 0) (wN l i))
  rw [hn]

theorem rputReply_ok {x lo hi why : Nat} {k : Int} {data : List Int} (hd : data.length < 500000) :
    granaryref21_PutReply ((x : Int), k, (lo : Int), (hi : Int), (why : Int), data) = some (bif okR k lo hi why data.length then (0, encR x lo hi why k data) else (2, [])) := by
  have hz : (Option.bind (cond (decide (k = (2 : Int))) (some true) (some (decide (k = (6 : Int))))) (fun z => some z)) = some (decide (k = 2) || decide (k = 6)) := by
    cases decide (k = 2) <;> cases decide (k = 6) <;> rfl
  have hz' : (cond (decide (k = (2 : Int))) (some true) (some (decide (k = (6 : Int))))) = some (decide (k = 2) || decide (k = 6)) := by
    cases decide (k = 2) <;> cases decide (k = 6) <;> rfl
  unfold granaryref21_PutReply
  dsimp only
  rw [hz', Option.bind_some, rvalid rfl]
  cases ho : okR k lo hi why data.length with
  | false => rfl
  | true =>
    have hk := ok_kind ho
    unfold encR wds
    have g1 : ∀ l : List Nat, l.getD 0 0 = x → granaryref01_Writer_Uint ((x : Int), 0) = some (wN l 1) := fun l h => by
      rw [rwuint0]; show _ = some (wU (l.getD 0 0) (0, [])); rw [h]; rfl
    rw [Bool.not_true, cond_false, cond_true]
    by_cases h6 : k = 6
    · rw [if_pos h6, deT h6]
      have hdat : data = [] := by
        subst h6
        unfold okR at ho
        have : data.length = 0 := by
          have := ho
          simp at this
          simp [this]
        exact List.length_eq_zero_iff.1 this
      subst hdat
      rw [g1 [x, 1, 1, 0, lo, hi] rfl, Option.bind_some]
      have q2 := steps (t := (0, [])) (l := [x, 1, 1, 0, lo, hi]) (i := 1) (n := 1) rfl rfl (by decide)
      have q3 := steps (t := (0, [])) (l := [x, 1, 1, 0, lo, hi]) (i := 2) (n := 1) rfl rfl (by decide)
      have q4 := steps (t := (0, [])) (l := [x, 1, 1, 0, lo, hi]) (i := 3) (n := 0) rfl rfl (by decide)
      have q5 := steps (t := (0, [])) (l := [x, 1, 1, 0, lo, hi]) (i := 4) (n := lo) rfl rfl (by decide)
      have q6 := steps (t := (0, [])) (l := [x, 1, 1, 0, lo, hi]) (i := 5) (n := hi) rfl rfl (by decide)
      simp only [Int.cast_ofNat_Int] at q2 q3 q4
      rw [q2, Option.bind_some, cond_true, q3, Option.bind_some, q4, Option.bind_some, q5, Option.bind_some, q6, Option.bind_some, wN_enc _ 6 (by simp), List.append_nil]
      rfl
    rw [if_neg h6, deF h6]
    by_cases h7 : k = 7
    · rw [if_pos h7, deT h7]
      have hdat : data = [] := by
        subst h7
        unfold okR at ho
        have : data.length = 0 := by
          have := ho
          simp at this
          simp [this]
        exact List.length_eq_zero_iff.1 this
      subst hdat
      rw [g1 [x, 1, 1, 1, why] rfl, Option.bind_some]
      have q2 := steps (t := (0, [])) (l := [x, 1, 1, 1, why]) (i := 1) (n := 1) rfl rfl (by decide)
      have q3 := steps (t := (0, [])) (l := [x, 1, 1, 1, why]) (i := 2) (n := 1) rfl rfl (by decide)
      have q4 := steps (t := (0, [])) (l := [x, 1, 1, 1, why]) (i := 3) (n := 1) rfl rfl (by decide)
      have q5 := steps (t := (0, [])) (l := [x, 1, 1, 1, why]) (i := 4) (n := why) rfl rfl (by decide)
      simp only [Int.cast_ofNat_Int] at q2 q3 q4
      rw [q2, Option.bind_some, cond_false, cond_true, q3, Option.bind_some, q4, Option.bind_some, q5, Option.bind_some, wN_enc _ 5 (by simp), List.append_nil]
      rfl
    rw [if_neg h7, deF h7]
    have ek : wrapF .u32 k = ((k.toNat : Nat) : Int) := by rw [wrapF_u32 (by omega) (by omega)]; omega
    by_cases h2 : k = 2
    · rw [if_pos h2, deT h2]
      rw [g1 [x, 1, 0, 0, 0, 2, lo, hi] rfl, Option.bind_some, ek]
      have q2 := steps (t := (0, [])) (l := [x, 1, 0, 0, 0, 2, lo, hi]) (i := 1) (n := 1) rfl rfl (by decide)
      have q3 := steps (t := (0, [])) (l := [x, 1, 0, 0, 0, 2, lo, hi]) (i := 2) (n := 0) rfl rfl (by decide)
      have q4 := steps (t := (0, [])) (l := [x, 1, 0, 0, 0, 2, lo, hi]) (i := 3) (n := 0) rfl rfl (by decide)
      have q5 := steps (t := (0, [])) (l := [x, 1, 0, 0, 0, 2, lo, hi]) (i := 4) (n := 0) rfl rfl (by decide)
      have q6 := steps (t := (0, [])) (l := [x, 1, 0, 0, 0, 2, lo, hi]) (i := 5) (n := k.toNat) rfl (by subst h2; rfl) (by decide)
      have q7 := steps (t := (0, [])) (l := [x, 1, 0, 0, 0, 2, lo, hi]) (i := 6) (n := lo) rfl rfl (by decide)
      have q8 := steps (t := (0, [])) (l := [x, 1, 0, 0, 0, 2, lo, hi]) (i := 7) (n := hi) rfl rfl (by decide)
      have hlen := wN_len [x, 1, 0, 0, 0, 2, lo, hi] 8
      simp only [Int.cast_ofNat_Int] at q2
      rw [show (((0 : Nat)) : Int) = 0 from rfl] at q3 q4 q5
      rw [q2, Option.bind_some, cond_false, cond_false, q3, Option.bind_some, q4, Option.bind_some, q5, Option.bind_some, q6, Option.bind_some, Bool.true_or, cond_true, q7, Option.bind_some, q8, Option.bind_some, Option.bind_some, fits1 (show (wN [x, 1, 0, 0, 0, 2, lo, hi] 8).2.length + data.length < 1000000 by omega), cond_true, wN_enc _ 8 (by simp)]
      rfl
    rw [if_neg h2, deF h2]
    rw [g1 [x, 1, 0, 0, 0, k.toNat] rfl, Option.bind_some, ek]
    have q2 := steps (t := (0, [])) (l := [x, 1, 0, 0, 0, k.toNat]) (i := 1) (n := 1) rfl rfl (by decide)
    have q3 := steps (t := (0, [])) (l := [x, 1, 0, 0, 0, k.toNat]) (i := 2) (n := 0) rfl rfl (by decide)
    have q4 := steps (t := (0, [])) (l := [x, 1, 0, 0, 0, k.toNat]) (i := 3) (n := 0) rfl rfl (by decide)
    have q5 := steps (t := (0, [])) (l := [x, 1, 0, 0, 0, k.toNat]) (i := 4) (n := 0) rfl rfl (by decide)
    have q6 := steps (t := (0, [])) (l := [x, 1, 0, 0, 0, k.toNat]) (i := 5) (n := k.toNat) rfl rfl (by decide)
    have hlen := wN_len [x, 1, 0, 0, 0, k.toNat] 6
    simp only [Int.cast_ofNat_Int] at q2
    rw [show (((0 : Nat)) : Int) = 0 from rfl] at q3 q4 q5
    rw [q2, Option.bind_some, cond_false, cond_false, q3, Option.bind_some, q4, Option.bind_some, q5, Option.bind_some, q6, Option.bind_some, Bool.or_self, cond_false, Option.bind_some, fits1 (show (wN [x, 1, 0, 0, 0, k.toNat] 6).2.length + data.length < 1000000 by omega), cond_true, wN_enc _ 6 (by simp)]
    rfl

end Go.Rf.W.Pure
