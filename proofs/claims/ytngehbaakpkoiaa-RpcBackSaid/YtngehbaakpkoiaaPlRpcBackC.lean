/-
  Package rpc: what is put comes back: calls, credentials.
-/
import Derived.Test.YtngehbaakpkoiaaPlRpcX
set_option linter.unusedVariables false
set_option linter.unusedSimpArgs false
set_option maxRecDepth 10000
namespace Go.Rf.W.Pure
open Go Go.Rf Go.Rf.W

theorem uint_at {N a n : Nat} {p : Int} {D r : List Int} (hb : Bts D) (hD : D.length < 1000000) (hN : 8 < N) (ha : a ≤ D.length) (hn : n < 4294967296) (h : D.drop a = be 4 n ++ r) :
    xdr_Reader_Uint N ((a : Int), 0, p, D) = some ((n : Int), ((a + 4 : Nat) : Int), 0, p, D) ∧ D.drop (a + 4) = r ∧ a + 4 ≤ D.length := by
  have h1 := drop_more h
  have h2 := drop_len h ha
  rw [List.length_append, be_length] at h2
  rw [be_length] at h1
  rw [uint_ok hb ha hD hN, if_neg (by omega), numAt_enc h hn]
  exact ⟨rfl, h1, by omega⟩

theorem opaque_at {N a : Nat} {M p : Int} {D l r : List Int} (hb : Bts D) (hD : D.length < 1000000) (hN : 8 < N) (ha : a ≤ D.length) (hM : (l.length : Int) ≤ M) (h : D.drop a = encB l ++ r) :
    xdr_Reader_Opaque N (M, (a : Int), 0, p, D) = some (((a + (encB l).length : Nat) : Int), 0, p, D, l) ∧ D.drop (a + (encB l).length) = r ∧ a + (encB l).length ≤ D.length := by
  have h1 := drop_more h
  have h2 := drop_len h ha
  rw [List.length_append] at h2
  have h3 := encB_length l
  obtain ⟨q1, q2, q3⟩ := opq_enc (M := M) h ha (by omega) hM
  rw [opaque_ok hb ha hD hN, if_pos q1, q2, q3, h3]
  rw [h3] at h1 h2
  refine ⟨?_, h1, by omega⟩
  rw [show a + 4 + l.length + padn l.length = a + (4 + l.length + padn l.length) by omega]

theorem auth_at {N a n : Nat} {p : Int} {D l r : List Int} (hb : Bts D) (hD : D.length < 1000000) (hN : 8 < N) (ha : a ≤ D.length) (hn : n < 4294967296) (hl : l.length ≤ 400) (h : D.drop a = be 4 n ++ (encB l ++ r)) :
    rpc_getAuth N ((a : Int), 0, p, D) = some ((n : Int), ((a + 4 + (encB l).length : Nat) : Int), 0, p, D, l) ∧ D.drop (a + 4 + (encB l).length) = r ∧ a + 4 + (encB l).length ≤ D.length := by
  obtain ⟨e1, e2, e3⟩ := uint_at (p := p) hb hD hN ha hn h
  obtain ⟨f1, f2, f3⟩ := opaque_at (M := 400) (p := p) hb hD hN e3 (by omega) e2
  refine ⟨?_, f2, f3⟩
  unfold rpc_getAuth
  dsimp only
  rw [e1, Option.bind_some]
  dsimp only
  rw [f1, Option.bind_some]

def callB (x1 x2 x3 x4 x5 cf vf : Nat) (cb vb p : List Int) : List Int :=
  be 4 x1 ++ (be 4 0 ++ (be 4 x2 ++ (be 4 x3 ++ (be 4 x4 ++ (be 4 x5 ++ (be 4 cf ++ (encB cb ++ (be 4 vf ++ (encB vb ++ p)))))))))

theorem putCall_ok {N x1 x2 x3 x4 x5 cf vf : Nat} {cb vb p : List Int} (h1 : x1 < 4294967296) (h2 : x2 < 4294967296) (h3 : x3 < 4294967296) (h4 : x4 < 4294967296) (h5 : x5 < 4294967296) (hc : cf < 4294967296) (hv : vf < 4294967296)
    (hcb : cb.length ≤ 30000) (hvb : vb.length ≤ 30000) (hp : p.length ≤ 30000) (hN : 8 < N) :
    rpc_PutCall N ((x1 : Int), (x2 : Int), (x3 : Int), (x4 : Int), (x5 : Int), (cf : Int), cb, (vf : Int), vb, p) = some (if cb.length ≤ 400 ∧ vb.length ≤ 400 then (0, callB x1 x2 x3 x4 x5 cf vf cb vb p) else (1, [])) := by
  have hl := nums_loop (N := N) (l := [x1, 0, x2, x3, x4, x5]) (L := [(x1 : Int), 0, (x2 : Int), (x3 : Int), (x4 : Int), (x5 : Int)]) (get6 rfl rfl) (bnd (by intro y hy; simp at hy; omega) rfl) rfl hN
  have hlen := wN_len [x1, 0, x2, x3, x4, x5] 6
  have hz := wN_zero [x1, 0, x2, x3, x4, x5] 6
  have he := wN_enc [x1, 0, x2, x3, x4, x5] 6 (by simp)
  unfold rpc_PutCall
  dsimp only
  rw [show xdr_NewWriter () = some () from rfl, Option.bind_some, hl, Option.bind_some]
  generalize wN [x1, 0, x2, x3, x4, x5] 6 = s at hlen hz he ⊢
  obtain ⟨e, b⟩ := s
  dsimp only at hlen hz he ⊢
  subst hz
  have e1 := wU_len cf (0, b)
  have e2 := wO_len cb 400 (wU cf (0, b))
  rw [putAuth_ok (s := (0, b)) hc hcb (by dsimp only; omega) hN, Option.bind_some]
  by_cases c1 : cb.length ≤ 400
  · have ew : wO cb 400 (wU cf (0, b)) = (0, b ++ be 4 cf ++ encB cb) := by
      unfold wU wO
      rw [if_pos rfl, if_pos rfl, if_neg (by omega)]
    rw [ew] at e2 ⊢
    dsimp only at e1 e2
    have e3 := wU_len vf (0, b ++ be 4 cf ++ encB cb)
    have e4 := wO_len vb 400 (wU vf (0, b ++ be 4 cf ++ encB cb))
    rw [putAuth_ok (s := (0, b ++ be 4 cf ++ encB cb)) hv hvb (by dsimp only; omega) hN, Option.bind_some]
    by_cases c2 : vb.length ≤ 400
    · have ew2 : wO vb 400 (wU vf (0, b ++ be 4 cf ++ encB cb)) = (0, b ++ be 4 cf ++ encB cb ++ be 4 vf ++ encB vb) := by
        unfold wU wO
        rw [if_pos rfl, if_pos rfl, if_neg (by omega)]
      rw [ew2] at e4 ⊢
      dsimp only at e3 e4
      unfold xdr_Writer_Why xdr_Writer_Bytes
      dsimp only
      rw [Option.bind_some]
      dsimp only
      rw [deS, Bool.not_true, cond_false, clone_ok (by omega), Option.bind_some, Option.bind_some]
      dsimp only
      rw [fits1 (by omega), cond_true, if_pos ⟨c1, c2⟩, he]
      unfold callB
      simp
    · have ew2 : wO vb 400 (wU vf (0, b ++ be 4 cf ++ encB cb)) = (1, b ++ be 4 cf ++ encB cb ++ be 4 vf) := by
        unfold wU wO
        rw [if_pos rfl, if_pos rfl, if_pos (by omega)]
      rw [ew2, if_neg (fun h => c2 h.2)]
      rfl
  · have ew : wO cb 400 (wU cf (0, b)) = (1, b ++ be 4 cf) := by
      unfold wU wO
      rw [if_pos rfl, if_pos rfl, if_pos (by omega)]
    rw [ew]
    rw [putAuth_ok (s := (1, b ++ be 4 cf)) hv hvb (by dsimp only; rw [List.length_append, be_length]; omega) hN, Option.bind_some]
    have ew2 : wO vb 400 (wU vf (1, b ++ be 4 cf)) = (1, b ++ be 4 cf) := rfl
    rw [ew2, if_neg (fun h => c1 h.1)]
    rfl

theorem getCall_at {N x1 x2 x3 x4 x5 cf vf : Nat} {cb vb p D : List Int} (h1 : x1 < 4294967296) (h2 : x2 < 4294967296) (h3 : x3 < 4294967296) (h4 : x4 < 4294967296) (h5 : x5 < 4294967296) (hc : cf < 4294967296) (hv : vf < 4294967296)
    (hcb : cb.length ≤ 400) (hvb : vb.length ≤ 400) (hb : Bts D) (hD : D.length < 1000000) (hN : 8 < N) (hd : D = callB x1 x2 x3 x4 x5 cf vf cb vb p) :
    rpc_GetCall N D = some ((x1 : Int), (x2 : Int), (x3 : Int), (x4 : Int), (x5 : Int), (cf : Int), (vf : Int), 0, cb, vb, p) := by
  have d0 : D.drop 0 = be 4 x1 ++ _ := hd
  obtain ⟨a1, d1, l1⟩ := uint_at (p := 0) hb hD hN (Nat.zero_le _) h1 d0
  obtain ⟨a2, d2, l2⟩ := uint_at (p := 0) hb hD hN l1 (by decide) d1
  obtain ⟨a3, d3, l3⟩ := uint_at (p := 0) hb hD hN l2 h2 d2
  obtain ⟨a4, d4, l4⟩ := uint_at (p := 0) hb hD hN l3 h3 d3
  obtain ⟨a5, d5, l5⟩ := uint_at (p := 0) hb hD hN l4 h4 d4
  obtain ⟨a6, d6, l6⟩ := uint_at (p := 0) hb hD hN l5 h5 d5
  obtain ⟨a7, d7, l7⟩ := auth_at (p := 0) hb hD hN l6 hc hcb d6
  obtain ⟨a8, d8, l8⟩ := auth_at (p := 0) hb hD hN l7 hv hvb d7
  have a1 : xdr_Reader_Uint N (0, 0, 0, D) = _ := a1
  unfold rpc_GetCall xdr_NewReader
  rw [clone1_ok hD, Option.bind_some, Option.bind_some, a1, Option.bind_some]
  dsimp only
  rw [a2, Option.bind_some]
  dsimp only
  rw [a3, Option.bind_some]
  dsimp only
  rw [a4, Option.bind_some]
  dsimp only
  rw [a5, Option.bind_some]
  dsimp only
  rw [a6, Option.bind_some]
  dsimp only
  rw [a7, Option.bind_some]
  dsimp only
  rw [a8, Option.bind_some]
  dsimp only
  unfold xdr_Reader_Why
  dsimp only
  rw [Option.bind_some]
  dsimp only
  rw [deS, Bool.not_true, cond_false, show decide ((((0 : Nat) : Int)) = 0) = true from rfl, Bool.not_true, Option.bind_some, cond_false, rest_ok l8 hD, Option.bind_some]
  dsimp only
  rw [d8]

theorem bts_app {a b : List Int} (ha : Bts a) (hb : Bts b) : Bts (a ++ b) := fun x hx => by
  rcases List.mem_append.1 hx with h | h
  · exact ha x h
  · exact hb x h
theorem be_bts (k n : Nat) : Bts (be k n) := be_bytes k n

theorem callB_bts {x1 x2 x3 x4 x5 cf vf : Nat} {cb vb p : List Int} (h1 : Bts cb) (h2 : Bts vb) (h3 : Bts p) : Bts (callB x1 x2 x3 x4 x5 cf vf cb vb p) :=
  bts_app (be_bts _ _) (bts_app (be_bts _ _) (bts_app (be_bts _ _) (bts_app (be_bts _ _) (bts_app (be_bts _ _) (bts_app (be_bts _ _) (bts_app (be_bts _ _) (bts_app (encB_bts h1) (bts_app (be_bts _ _) (bts_app (encB_bts h2) h3)))))))))
theorem callB_len {x1 x2 x3 x4 x5 cf vf : Nat} {cb vb p : List Int} : (callB x1 x2 x3 x4 x5 cf vf cb vb p).length ≤ 46 + cb.length + vb.length + p.length := by
  have h1 := encB_length cb
  have h2 := encB_length vb
  have h3 := padn_lt cb.length
  have h4 := padn_lt vb.length
  unfold callB
  simp only [List.length_append, be_length]
  omega

end Go.Rf.W.Pure
