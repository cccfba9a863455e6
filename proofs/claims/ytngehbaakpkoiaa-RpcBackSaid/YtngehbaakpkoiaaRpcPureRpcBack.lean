/-
  RpcBack, plain: what is put comes back.
-/
import Derived.Test.YtngehbaakpkoiaaRpcFRpcBack
import Derived.Test.YtngehbaakpkoiaaPlRpcBackF
import Derived.Test.YtngehbaakpkoiaaPlRpcFrame
import Derived.Test.YtngehbaakpkoiaaPlRpc
import Derived.Test.YtngehbaakpkoiaaRfC
set_option linter.unusedVariables false
set_option linter.unusedSimpArgs false
set_option maxRecDepth 10000
namespace Go.Rf.W.Pure
open Go Go.Rf Go.Rf.W

theorem same_ok {N : Nat} {x : List (List Int)} (hx : x.length < 100000) (hN : x.length < N) : granaryref21_Same N (x, x) = some true := by
  have key : granaryref21_Same_l0 N (x, x, (0 : Int)) = some (.inr ()) := by
    refine r_iter (b := granaryref21_Same_b0 N) (r := .inr ()) (fun i => (x, x, (i : Int))) x.length (fun i hi nx => ?_) (fun nx => ?_) N hN
    · unfold granaryref21_Same_b0
      dsimp only
      rw [deT (p := (i : Int) < ((x.length : Nat) : Int)) (by omega), cond_true, deT (p := (0 : Int) ≤ (i : Int)) (by omega), Bool.and_self, cond_true, cond_true, deS, Bool.not_true, cond_false, wrapF_i64 (by omega) (by omega)]
      rfl
    · unfold granaryref21_Same_b0
      dsimp only
      rw [deF (by omega), cond_false]
  unfold granaryref21_Same
  dsimp only
  rw [deS, Bool.not_true, cond_false, key, Option.bind_some]

theorem same_cred {N : Nat} {x1 x2 x4 x5 : Int} {x3 : List UInt8} {l : List Int} (hl : l.length < 30000) (hN : l.length < N) : granaryref21_SameCred_v2 N (x1, x2, x3, x4, x5, l, x1, x2, x3, x4, x5, l) = some true := by
  have key : granaryref21_SameCred_v2_l0 N (0, x1, x2, x3, x4, x5, l, x1, x2, x3, x4, x5, l) = some (.inr (x1, x2, x3, x4, x5, l, x1, x2, x3, x4, x5, l)) := by
    refine r_iter (b := granaryref21_SameCred_v2_b0 N) (r := .inr (x1, x2, x3, x4, x5, l, x1, x2, x3, x4, x5, l)) (fun i => ((i : Int), x1, x2, x3, x4, x5, l, x1, x2, x3, x4, x5, l)) l.length (fun i hi nx => ?_) (fun nx => ?_) N hN
    · unfold granaryref21_SameCred_v2_b0
      dsimp only
      rw [deT (p := (i : Int) < (l.length : Int)) (by omega), cond_true, deT (p := (0 : Int) ≤ (i : Int)) (by omega), Bool.and_self, cond_true, cond_true, deS, Bool.not_true, cond_false, wrapF_i64 (by omega) (by omega)]
      rfl
    · unfold granaryref21_SameCred_v2_b0
      dsimp only
      rw [deF (by omega), cond_false]
  unfold granaryref21_SameCred_v2
  dsimp only
  rw [deS, Bool.not_true, cond_false, deS, Bool.not_true, cond_false, deS, Bool.not_true, cond_false, deS, Bool.not_true, cond_false, deS, Bool.not_true, cond_false, deS, Bool.not_true, Option.bind_some, cond_false, key, Option.bind_some]

theorem same_reply2 (x1 x2 x3 x4 x5 : Int) (l : List Int) : granaryref21_SameReply_v2 (x1, x2, x3, x4, x5, l, x1, x2, x3, x4, x5, l) = some true := by
  unfold granaryref21_SameReply_v2
  dsimp only
  rw [deS, cond_true, deS, cond_true, deS, cond_true, deS, cond_true, deS, cond_true, deS]
  rfl

theorem same_call2 (x1 x2 x3 x4 x5 x6 : Int) (l7 : List Int) (x8 : Int) (l9 l10 : List Int) : granaryref21_SameCall_v2 (x1, x2, x3, x4, x5, x6, l7, x8, l9, l10, x1, x2, x3, x4, x5, x6, l7, x8, l9, l10) = some true := by
  have h : ∀ (f : Int) (b : List Int), granaryref21_SameAuth_v1 (f, b, f, b) = some true := fun f b => by
    unfold granaryref21_SameAuth_v1
    dsimp only
    rw [deS, cond_true, deS]; rfl
  unfold granaryref21_SameCall_v2
  dsimp only
  rw [deS, cond_true, deS, cond_true, deS, cond_true, deS, cond_true, deS, cond_true, h, h, deS]
  rfl


theorem frag_bts : ∀ (s : List Int) (f : Nat) (r : List Int), Bts r → Bts (frag s f r []).1 ∧ Bts (frag s f r []).2
  | [], f, r, h => ⟨h, fun x hx => by cases hx⟩
  | v :: s, f, r, h => by
    unfold frag
    by_cases c : v ≤ 0 ∨ (r.length : Int) ≤ v ∨ 32 ≤ f
    · rw [if_pos c]; exact frag_bts s f r h
    · rw [if_neg c, frag_out s (f + 1) (r.drop v.toNat)]
      have ih := frag_bts s (f + 1) (r.drop v.toNat) (bts_drop h _)
      exact ⟨ih.1, bts_app (bts_app (bts_app (fun x hx => by cases hx) (be_bts _ _)) (bts_take h _)) ih.2⟩

theorem frames_bts {p sizes : List Int} (h : Bts p) : Bts (frames p sizes) := by
  have h2 := frag_bts sizes 1 p h
  unfold frames
  exact bts_app (bts_app h2.2 (be_bts _ _)) h2.1

theorem getCall_any {N : Nat} {D : List Int} (hb : Bts D) (hD : D.length < 1000000) (hN : 8 < N) : ∃ r, rpc_GetCall N D = some r := by
  obtain ⟨v1, a1, w1, p1, k1, hv1, e1, _⟩ := uint_any (N := N) (a := 0) (w := 0) (p := 0) hb (Nat.zero_le _) hD hN
  obtain ⟨v2, a2, w2, p2, k2, hv2, e2, _⟩ := uint_any (w := w1) (p := p1) hb k1 hD hN
  obtain ⟨v3, a3, w3, p3, k3, hv3, e3, _⟩ := uint_any (w := w2) (p := p2) hb k2 hD hN
  obtain ⟨v4, a4, w4, p4, k4, hv4, e4, _⟩ := uint_any (w := w3) (p := p3) hb k3 hD hN
  obtain ⟨v5, a5, w5, p5, k5, hv5, e5, _⟩ := uint_any (w := w4) (p := p4) hb k4 hD hN
  obtain ⟨v6, a6, w6, p6, k6, hv6, e6, _⟩ := uint_any (w := w5) (p := p5) hb k5 hD hN
  obtain ⟨v7, a7, w7, p7, l7, k7, hv7, b7, c7, e7, _⟩ := auth_any (w := w6) (p := p6) hb k6 hD hN
  obtain ⟨v8, a8, w8, p8, l8, k8, hv8, b8, c8, e8, _⟩ := auth_any (w := w7) (p := p7) hb k7 hD hN
  have e1 : xdr_Reader_Uint N (0, 0, 0, D) = _ := e1
  unfold rpc_GetCall xdr_NewReader
  rw [clone1_ok hD, Option.bind_some, Option.bind_some, e1, Option.bind_some]
  dsimp only
  rw [e2, Option.bind_some]
  dsimp only
  rw [e3, Option.bind_some]
  dsimp only
  rw [e4, Option.bind_some]
  dsimp only
  rw [e5, Option.bind_some]
  dsimp only
  rw [e6, Option.bind_some]
  dsimp only
  rw [e7, Option.bind_some]
  dsimp only
  rw [e8, Option.bind_some]
  dsimp only
  rw [show xdr_Reader_Why ((a8 : Int), w8, p8, D) = some (w8, p8, (a8 : Int), w8, p8, D) from rfl, Option.bind_some]
  dsimp only
  by_cases h : w8 = 0
  · rw [deT h, Bool.not_true, cond_false, Option.bind_some]
    by_cases h2 : (v2 : Int) = 0
    · rw [deT h2, Bool.not_true, cond_false, rest_ok k8 hD]
      exact ⟨_, rfl⟩
    · rw [deF h2]
      exact ⟨_, rfl⟩
  · rw [deF h]
    exact ⟨_, rfl⟩

theorem nil_bts : Bts [] := fun x hx => by cases hx

theorem back_core {P sizes cb vb cp rd l : List Int} {x1 x2 x3 x4 x5 cf vf rx rl rh ry f c u g : Nat} {rk : Int} {m : List UInt8} (hP : Bts P) (hx1 : x1 < 4294967296) (hx2 : x2 < 4294967296) (hx3 : x3 < 4294967296) (hx4 : x4 < 4294967296) (hx5 : x5 < 4294967296) (hcf : cf < 4294967296) (hvf : vf < 4294967296)
    (hcb : Bts cb) (hvb : Bts vb) (hcp : Bts cp) (hrd : Bts rd) (hrx : rx < 4294967296) (hrl : rl < 4294967296) (hrh : rh < 4294967296) (hry : ry < 4294967296) (hc : c < 4294967296) (hu : u < 4294967296) (hg : g < 4294967296) (hl : ∀ x ∈ l, 0 ≤ x ∧ x < 4294967296)
    (q1 : cb.length ≤ 140737488355328) (q2 : vb.length ≤ 140737488355328) (q3 : cp.length ≤ 140737488355328) (q4 : rd.length ≤ 140737488355328) (q5 : m.length ≤ 140737488355328) (q6 : l.length ≤ 140737488355328) :
    granarylaw21_RpcBack 30000 (P, sizes, (x1 : Int), (x2 : Int), (x3 : Int), (x4 : Int), (x5 : Int), (cf : Int), cb, (vf : Int), vb, cp, (rx : Int), rk, (rl : Int), (rh : Int), (ry : Int), rd, (f : Int), (c : Int), m, (u : Int), (g : Int), l) = some true := by
  unfold granarylaw21_RpcBack
  dsimp only
  rw [wrapF_i64 (n := ((cp.length : Nat) : Int) + ((cb.length : Nat) : Int)) (by omega) (by omega), wrapF_i64 (n := ((cp.length : Nat) : Int) + ((cb.length : Nat) : Int) + ((vb.length : Nat) : Int)) (by omega) (by omega), wrapF_i64 (n := ((cp.length : Nat) : Int) + ((cb.length : Nat) : Int) + ((vb.length : Nat) : Int) + ((rd.length : Nat) : Int)) (by omega) (by omega), wrapF_i64 (n := ((cp.length : Nat) : Int) + ((cb.length : Nat) : Int) + ((vb.length : Nat) : Int) + ((rd.length : Nat) : Int) + ((m.length : Nat) : Int)) (by omega) (by omega), wrapF_i64 (n := (8 : Int) * ((l.length : Nat) : Int)) (by omega) (by omega), wrapF_i64 (n := ((cp.length : Nat) : Int) + ((cb.length : Nat) : Int) + ((vb.length : Nat) : Int) + ((rd.length : Nat) : Int) + ((m.length : Nat) : Int) + (8 : Int) * ((l.length : Nat) : Int)) (by omega) (by omega)]
  by_cases c1 : 20000 < P.length
  · rw [deT (p := (20000 : Int) < ((P.length : Nat) : Int)) (by omega), cond_true, Option.bind_some, cond_true, rpc_live]; rfl
  rw [deF (p := (20000 : Int) < ((P.length : Nat) : Int)) (by omega), cond_false]
  by_cases c2 : 60 < sizes.length
  · rw [deT (p := (60 : Int) < ((sizes.length : Nat) : Int)) (by omega), cond_true, Option.bind_some, cond_true, rpc_live]; rfl
  rw [deF (p := (60 : Int) < ((sizes.length : Nat) : Int)) (by omega), cond_false]
  by_cases c3 : (20000 : Int) < ((cp.length : Nat) : Int) + ((cb.length : Nat) : Int) + ((vb.length : Nat) : Int) + ((rd.length : Nat) : Int) + ((m.length : Nat) : Int) + (8 : Int) * ((l.length : Nat) : Int)
  · rw [deT c3, Option.bind_some, cond_true, rpc_live]; rfl
  rw [deF c3, Option.bind_some, cond_false]
  have hn : ∀ n, granarylaw21_num n = some n := fun _ => rfl
  have hfl := frames_len (p := P) (sizes := sizes) (by omega) (by omega)
  have hrun := run_frames (p := P) (sizes := sizes) (by omega)
  rw [show rpc_NewFramer () = some () from rfl, Option.bind_some, frame1_ok (by decide) (by omega) (by omega), Option.bind_some, feed0_ok (by decide) (by omega) (frames_bts hP) (by omega), Option.bind_some, hrun]
  -- calls
  have hcall : ∃ r40 r41, rpc_PutCall 30000 ((x1 : Int), (x2 : Int), (x3 : Int), (x4 : Int), (x5 : Int), (cf : Int), cb, (vf : Int), vb, cp) = some r40 ∧ rpc_GetCall 30000 r40.2 = some r41 ∧ ((r40.1 = 0 ∧ r41 = ((x1 : Int), (x2 : Int), (x3 : Int), (x4 : Int), (x5 : Int), (cf : Int), (vf : Int), 0, cb, vb, cp)) ∨ r40.1 ≠ 0) := by
    have hp := putCall_ok (N := 30000) (p := cp) hx1 hx2 hx3 hx4 hx5 hcf hvf (show cb.length ≤ 30000 by omega) (show vb.length ≤ 30000 by omega) (by omega) (by decide)
    by_cases hc4 : cb.length ≤ 400 ∧ vb.length ≤ 400
    · rw [if_pos hc4] at hp
      have hle := callB_len (x1 := x1) (x2 := x2) (x3 := x3) (x4 := x4) (x5 := x5) (cf := cf) (vf := vf) (cb := cb) (vb := vb) (p := cp)
      exact ⟨_, _, hp, getCall_at hx1 hx2 hx3 hx4 hx5 hcf hvf hc4.1 hc4.2 (callB_bts hcb hvb hcp) (by dsimp only; omega) (by decide) rfl, .inl ⟨rfl, rfl⟩⟩
    · rw [if_neg hc4] at hp
      obtain ⟨r, hr⟩ := getCall_any (N := 30000) (D := []) nil_bts (by decide) (by decide)
      exact ⟨_, _, hp, hr, .inr (by decide : ¬ ((1 : Int) = 0))⟩
  obtain ⟨r40, r41, t1, t2, t3⟩ := hcall
  have hrep : ∃ r49 r50, rpc_PutReply 30000 ((rx : Int), rk, (rl : Int), (rh : Int), (ry : Int), rd) = some r49 ∧ rpc_GetReply 30000 r49.2 = some r50 ∧ ((r49.1 = 0 ∧ r50 = ((rx : Int), rk, (rl : Int), (rh : Int), (ry : Int), 0, rd)) ∨ r49.1 ≠ 0) := by
    have hp := putReply_ok (N := 30000) (k := rk) (data := rd) hrx hrl hrh hry (by omega) (by decide)
    cases ho : okR rk rl rh ry rd.length with
    | true =>
      rw [ho, cond_true] at hp
      have hI : IsR (encR rx rl rh ry rk rd) rx rl rh ry rk rd := ⟨ho, rfl, hrx, hrl, hrh, hry⟩
      have hel := enc_len rx rl rh ry rk rd
      have heb : Bts (encR rx rl rh ry rk rd) := by
        unfold encR
        refine bts_app (fun y hy => ?_) hrd
        obtain ⟨z, hz, hy⟩ := List.mem_flatten.1 hy
        obtain ⟨n, _, rfl⟩ := List.mem_map.1 hz
        exact be_bytes 4 n y hy
      by_cases hsm : (encR rx rl rh ry rk rd).length ≤ 20100
      · obtain ⟨x', lo', hi', why', k', w', data', _, _, _, _, _, _, _, e, huni⟩ := getReply_ok (N := 30000) heb hsm (by decide)
        obtain ⟨u0, u1, u2, u3, u4, u5, u6⟩ := huni _ _ _ _ _ _ hI
        subst u1 u2 u3 u4 u5 u6
        unfold finR at e
        rw [if_pos ⟨u0, hI.1, rfl⟩] at e
        exact ⟨_, _, hp, e, .inl ⟨rfl, rfl⟩⟩
      · exfalso
        omega
    | false =>
      rw [ho, cond_false] at hp
      obtain ⟨x', lo', hi', why', k', w', data', _, _, _, _, _, _, _, e, _⟩ := getReply_ok (N := 30000) (D := []) nil_bts (by decide) (by decide)
      exact ⟨_, _, hp, e, .inr (by decide : ¬ ((2 : Int) = 0))⟩
  obtain ⟨r49, r50, t4, t5, t6⟩ := hrep
  have hcred : ∃ r58 r59, rpc_PutCred 30000 ((f : Int), (c : Int), m, (u : Int), (g : Int), l) = some r58 ∧ rpc_GetCred 30000 (r58.1, r58.2.2) = some r59 ∧ ((r58.2.1 = 0 ∧ r59 = ((f : Int), (c : Int), m, (u : Int), (g : Int), 0, l) ∧ l.length < 25000) ∨ r58.2.1 ≠ 0) := by
    obtain ⟨r, e1, e2, e3⟩ := putCred_ok (N := 30000) (f := f) (c := c) (u := u) (g := g) (m := m) (l := l) hc hu hg (by omega) hl (by omega) (by decide)
    have hnil : rpc_GetCred 30000 (0, []) = some (0, 0, [], 0, 0, 0, []) := rfl
    by_cases h0 : r.2.1 = 0
    · rcases e2 h0 with ⟨n1, n2, n3, n4, n5, n6, n7, n8⟩ | ⟨n1, n2, n3, n4, n5⟩
      · subst n1 n2 n3 n4 n5 n6
        exact ⟨r, _, e1, by rw [n7, n8]; exact hnil, .inl ⟨h0, rfl, by decide⟩⟩
      · subst n1
        have hle := credB_len (c := c) (u := u) (g := g) (m := m) (l := l)
        exact ⟨r, _, e1, by rw [n4, n5]; exact getCred_at hc hu hg n2 hl n3 credB_bts (by omega) (by decide) rfl, .inl ⟨h0, rfl, by omega⟩⟩
    · obtain ⟨n1, n2⟩ := e3 h0
      exact ⟨r, _, e1, by rw [n1, n2]; exact hnil, .inr h0⟩
  obtain ⟨r58, r59, t7, t8, t9⟩ := hcred
  obtain ⟨r67, t10, t11⟩ := classify_back (N := 30000) hP (by omega) (by decide)
  by_cases c4 : P.length ≤ 4096
  · rw [if_pos c4]
    unfold FS.res
    dsimp only
    rw [if_neg (by decide), deT (p := ((P.length : Nat) : Int) ≤ 4096) (by omega), cond_true, hn, Option.bind_some, show decide ((0 : Int) = 0) = true from rfl, Bool.not_true, cond_false, show decide (1 ≤ [P].length) = true from rfl, cond_true, cond_true, show List.take 1 (List.drop 0 [P]) = [P] from rfl, same_ok (by simp) (by simp), Option.bind_some, Bool.not_true, cond_false]
    unfold rpc_Framer_Left_v1
    dsimp only
    rw [Option.bind_some]
    dsimp only
    rw [show decide ((((0 : Nat)) : Int) = 0) = true from rfl, Bool.not_true, Option.bind_some, cond_false, deF (p := (4096 : Int) < ((P.length : Nat) : Int)) (by omega), cond_false, Option.bind_some, cond_false]
    rw [t1, Option.bind_some, t2, Option.bind_some]
    rw [hn, Option.bind_some]
    have j1 : ∀ (k : Bool → Option Bool), (∀ z, z = false → k z = some true) → (Option.bind (bif decide (r40.1 = 0) then (Option.bind (granarylaw21_num r41.2.2.2.2.2.2.2.1) fun r44 => bif !(decide (r44 = 0)) then some true else (granaryref21_SameCall_v2 (r41.1, r41.2.1, r41.2.2.1, r41.2.2.2.1, r41.2.2.2.2.1, r41.2.2.2.2.2.1, r41.2.2.2.2.2.2.2.2.1, r41.2.2.2.2.2.2.1, r41.2.2.2.2.2.2.2.2.2.1, r41.2.2.2.2.2.2.2.2.2.2, (x1 : Int), (x2 : Int), (x3 : Int), (x4 : Int), (x5 : Int), (cf : Int), cb, (vf : Int), vb, cp)).bind fun r46 => some (!r46)) else some false) k) = some true := by
      intro k hk
      rcases t3 with ⟨z1, z2⟩ | z1
      · subst z2
        rw [deT z1, cond_true, hn, Option.bind_some]
        dsimp only
        rw [deS, Bool.not_true, cond_false, same_call2]
        exact hk false rfl
      · rw [deF z1]
        exact hk false rfl
    refine j1 _ fun z hz => ?_
    subst hz
    rw [cond_false, t4, Option.bind_some, t5, Option.bind_some, hn, Option.bind_some]
    have j2 : ∀ (k : Bool → Option Bool), (∀ z, z = false → k z = some true) → (Option.bind (bif decide (r49.1 = 0) then (Option.bind (granarylaw21_num r50.2.2.2.2.2.1) fun r53 => bif !(decide (r53 = 0)) then some true else (granaryref21_SameReply_v2 (r50.1, r50.2.1, r50.2.2.1, r50.2.2.2.1, r50.2.2.2.2.1, r50.2.2.2.2.2.2, (rx : Int), rk, (rl : Int), (rh : Int), (ry : Int), rd)).bind fun r55 => some (!r55)) else some false) k) = some true := by
      intro k hk
      rcases t6 with ⟨z1, z2⟩ | z1
      · subst z2
        rw [deT z1, cond_true, hn, Option.bind_some]
        dsimp only
        rw [deS, Bool.not_true, cond_false, same_reply2]
        exact hk false rfl
      · rw [deF z1]
        exact hk false rfl
    refine j2 _ fun z hz => ?_
    subst hz
    rw [cond_false, t7, Option.bind_some, t8, Option.bind_some, hn, Option.bind_some]
    have j3 : ∀ (k : Bool → Option Bool), (∀ z, z = false → k z = some true) → (Option.bind (bif decide (r58.2.1 = 0) then (bif !(decide (r59.2.2.2.2.2.1 = 0)) then some true else (granaryref21_SameCred_v2 30000 (r59.1, r59.2.1, r59.2.2.1, r59.2.2.2.1, r59.2.2.2.2.1, r59.2.2.2.2.2.2, (f : Int), (c : Int), m, (u : Int), (g : Int), l)).bind fun r64 => some (!r64)) else some false) k) = some true := by
      intro k hk
      rcases t9 with ⟨z1, z2, z3⟩ | z1
      · subst z2
        rw [deT z1, cond_true]
        dsimp only
        rw [deS, Bool.not_true, cond_false, same_cred (by omega) (by omega)]
        exact hk false rfl
      · rw [deF z1]
        exact hk false rfl
    refine j3 _ fun z hz => ?_
    subst hz
    rw [cond_false, t10, Option.bind_some]
    rcases t11 with y1 | ⟨y1, x', lo', hi', why', k', m1, m2, m3, m4, m5, b1, b2, b3, b4, o1, o2⟩ | ⟨y1, y2⟩
    · rw [y1, deS, cond_true, rpc_live]; rfl
    · rw [y1, show decide ((1 : Int) = 0) = false from rfl, cond_false, deS, cond_true, m1, m2, m3, m4, m5, putReply_ok b1 b2 b3 b4 (by decide) (by decide), Option.bind_some]
      rw [show ([] : List Int).length = 0 from rfl, o1, cond_true]
      dsimp only
      rw [hn, Option.bind_some, deS, cond_true, deF o2, Bool.not_false, cond_true, rpc_live]
      rfl
    · rw [y2, y1, show decide ((2 : Int) = 0) = false from rfl, cond_false, show decide ((2 : Int) = 1) = false from rfl, cond_false, Option.bind_some, deS, cond_true]
      dsimp only
      rw [hn, Option.bind_some, deS, cond_true, deS, cond_true, rpc_live]
      rfl
  · rw [if_neg c4]
    unfold FS.res
    dsimp only
    rw [if_pos rfl, deF (p := ((P.length : Nat) : Int) ≤ 4096) (by omega), cond_false, Option.bind_some]
    dsimp only
    rw [cond_false, deT (p := (4096 : Int) < ((P.length : Nat) : Int)) (by omega), cond_true, hn, Option.bind_some, deS, Bool.not_true, cond_false]
    unfold rpc_Framer_Closed_v1
    dsimp only
    rw [Option.bind_some]
    dsimp only
    rw [Bool.not_true, Option.bind_some, cond_false]
    rw [t1, Option.bind_some, t2, Option.bind_some]
    rw [hn, Option.bind_some]
    have j1 : ∀ (k : Bool → Option Bool), (∀ z, z = false → k z = some true) → (Option.bind (bif decide (r40.1 = 0) then (Option.bind (granarylaw21_num r41.2.2.2.2.2.2.2.1) fun r44 => bif !(decide (r44 = 0)) then some true else (granaryref21_SameCall_v2 (r41.1, r41.2.1, r41.2.2.1, r41.2.2.2.1, r41.2.2.2.2.1, r41.2.2.2.2.2.1, r41.2.2.2.2.2.2.2.2.1, r41.2.2.2.2.2.2.1, r41.2.2.2.2.2.2.2.2.2.1, r41.2.2.2.2.2.2.2.2.2.2, (x1 : Int), (x2 : Int), (x3 : Int), (x4 : Int), (x5 : Int), (cf : Int), cb, (vf : Int), vb, cp)).bind fun r46 => some (!r46)) else some false) k) = some true := by
      intro k hk
      rcases t3 with ⟨z1, z2⟩ | z1
      · subst z2
        rw [deT z1, cond_true, hn, Option.bind_some]
        dsimp only
        rw [deS, Bool.not_true, cond_false, same_call2]
        exact hk false rfl
      · rw [deF z1]
        exact hk false rfl
    refine j1 _ fun z hz => ?_
    subst hz
    rw [cond_false, t4, Option.bind_some, t5, Option.bind_some, hn, Option.bind_some]
    have j2 : ∀ (k : Bool → Option Bool), (∀ z, z = false → k z = some true) → (Option.bind (bif decide (r49.1 = 0) then (Option.bind (granarylaw21_num r50.2.2.2.2.2.1) fun r53 => bif !(decide (r53 = 0)) then some true else (granaryref21_SameReply_v2 (r50.1, r50.2.1, r50.2.2.1, r50.2.2.2.1, r50.2.2.2.2.1, r50.2.2.2.2.2.2, (rx : Int), rk, (rl : Int), (rh : Int), (ry : Int), rd)).bind fun r55 => some (!r55)) else some false) k) = some true := by
      intro k hk
      rcases t6 with ⟨z1, z2⟩ | z1
      · subst z2
        rw [deT z1, cond_true, hn, Option.bind_some]
        dsimp only
        rw [deS, Bool.not_true, cond_false, same_reply2]
        exact hk false rfl
      · rw [deF z1]
        exact hk false rfl
    refine j2 _ fun z hz => ?_
    subst hz
    rw [cond_false, t7, Option.bind_some, t8, Option.bind_some, hn, Option.bind_some]
    have j3 : ∀ (k : Bool → Option Bool), (∀ z, z = false → k z = some true) → (Option.bind (bif decide (r58.2.1 = 0) then (bif !(decide (r59.2.2.2.2.2.1 = 0)) then some true else (granaryref21_SameCred_v2 30000 (r59.1, r59.2.1, r59.2.2.1, r59.2.2.2.1, r59.2.2.2.2.1, r59.2.2.2.2.2.2, (f : Int), (c : Int), m, (u : Int), (g : Int), l)).bind fun r64 => some (!r64)) else some false) k) = some true := by
      intro k hk
      rcases t9 with ⟨z1, z2, z3⟩ | z1
      · subst z2
        rw [deT z1, cond_true]
        dsimp only
        rw [deS, Bool.not_true, cond_false, same_cred (by omega) (by omega)]
        exact hk false rfl
      · rw [deF z1]
        exact hk false rfl
    refine j3 _ fun z hz => ?_
    subst hz
    rw [cond_false, t10, Option.bind_some]
    rcases t11 with y1 | ⟨y1, x', lo', hi', why', k', m1, m2, m3, m4, m5, b1, b2, b3, b4, o1, o2⟩ | ⟨y1, y2⟩
    · rw [y1, deS, cond_true, rpc_live]; rfl
    · rw [y1, show decide ((1 : Int) = 0) = false from rfl, cond_false, deS, cond_true, m1, m2, m3, m4, m5, putReply_ok b1 b2 b3 b4 (by decide) (by decide), Option.bind_some]
      rw [show ([] : List Int).length = 0 from rfl, o1, cond_true]
      dsimp only
      rw [hn, Option.bind_some, deS, cond_true, deF o2, Bool.not_false, cond_true, rpc_live]
      rfl
    · rw [y2, y1, show decide ((2 : Int) = 0) = false from rfl, cond_false, show decide ((2 : Int) = 1) = false from rfl, cond_false, Option.bind_some, deS, cond_true]
      dsimp only
      rw [hn, Option.bind_some, deS, cond_true, deS, cond_true, rpc_live]
      rfl

theorem wf_u32s {l : List Int} (h : EK.wf (.sl (.int .u32)) l) : ∀ x ∈ l, 0 ≤ x ∧ x < 4294967296 := fun x hx => by
  obtain ⟨m, e, h2⟩ := wf_u32 (h.2 x hx)
  omega

theorem rpcBack (x : EKs [(.sl (.int .u8)), (.sl (.int .i64)), (.pair (.int .u32) (.pair (.int .u32) (.pair (.int .u32) (.pair (.int .u32) (.pair (.int .u32) (.pair (.pair (.int .u32) (.pair (.sl (.int .u8)) .unit)) (.pair (.pair (.int .u32) (.pair (.sl (.int .u8)) .unit)) (.pair (.sl (.int .u8)) .unit)))))))), (.pair (.int .u32) (.pair (.int .i64) (.pair (.int .u32) (.pair (.int .u32) (.pair (.int .u32) (.pair (.sl (.int .u8)) .unit)))))), (.pair (.int .u32) (.pair (.int .u32) (.pair .str (.pair (.int .u32) (.pair (.int .u32) (.pair (.sl (.int .u32)) .unit))))))]) (hw : wfs [(.sl (.int .u8)), (.sl (.int .i64)), (.pair (.int .u32) (.pair (.int .u32) (.pair (.int .u32) (.pair (.int .u32) (.pair (.int .u32) (.pair (.pair (.int .u32) (.pair (.sl (.int .u8)) .unit)) (.pair (.pair (.int .u32) (.pair (.sl (.int .u8)) .unit)) (.pair (.sl (.int .u8)) .unit)))))))), (.pair (.int .u32) (.pair (.int .i64) (.pair (.int .u32) (.pair (.int .u32) (.pair (.int .u32) (.pair (.sl (.int .u8)) .unit)))))), (.pair (.int .u32) (.pair (.int .u32) (.pair .str (.pair (.int .u32) (.pair (.int .u32) (.pair (.sl (.int .u32)) .unit))))))] x) (hr : rchs [(.sl (.int .u8)), (.sl (.int .i64)), (.pair (.int .u32) (.pair (.int .u32) (.pair (.int .u32) (.pair (.int .u32) (.pair (.int .u32) (.pair (.pair (.int .u32) (.pair (.sl (.int .u8)) .unit)) (.pair (.pair (.int .u32) (.pair (.sl (.int .u8)) .unit)) (.pair (.sl (.int .u8)) .unit)))))))), (.pair (.int .u32) (.pair (.int .i64) (.pair (.int .u32) (.pair (.int .u32) (.pair (.int .u32) (.pair (.sl (.int .u8)) .unit)))))), (.pair (.int .u32) (.pair (.int .u32) (.pair .str (.pair (.int .u32) (.pair (.int .u32) (.pair (.sl (.int .u32)) .unit))))))] x) : ∃ N, granarylaw21_RpcBack N (x.1, x.2.1, x.2.2.1.1, x.2.2.1.2.1, x.2.2.1.2.2.1, x.2.2.1.2.2.2.1, x.2.2.1.2.2.2.2.1, x.2.2.1.2.2.2.2.2.1.1, x.2.2.1.2.2.2.2.2.1.2.1, x.2.2.1.2.2.2.2.2.2.1.1, x.2.2.1.2.2.2.2.2.2.1.2.1, x.2.2.1.2.2.2.2.2.2.2.1, x.2.2.2.1.1, x.2.2.2.1.2.1, x.2.2.2.1.2.2.1, x.2.2.2.1.2.2.2.1, x.2.2.2.1.2.2.2.2.1, x.2.2.2.1.2.2.2.2.2.1, x.2.2.2.2.1, x.2.2.2.2.2.1, x.2.2.2.2.2.2.1, x.2.2.2.2.2.2.2.1, x.2.2.2.2.2.2.2.2.1, x.2.2.2.2.2.2.2.2.2.1) = some true := by
  refine ⟨30000, ?_⟩
  obtain ⟨wP, wS, ⟨w1, w2, w3, w4, w5, ⟨w6, w7, _⟩, ⟨w8, w9, _⟩, w10, _⟩, ⟨y1, y2, y3, y4, y5, y6, _⟩, ⟨z1, z2, z3, z4, z5, z6, _⟩⟩ := hw
  obtain ⟨rP, rS, ⟨_, _, _, _, _, ⟨_, r7, _⟩, ⟨_, r9, _⟩, r10, _⟩, ⟨_, _, _, _, _, s6, _⟩, ⟨_, _, t3, _, _, t6, _⟩⟩ := hr
  obtain ⟨a1, e1, h1⟩ := wf_u32 w1
  obtain ⟨a2, e2, h2⟩ := wf_u32 w2
  obtain ⟨a3, e3, h3⟩ := wf_u32 w3
  obtain ⟨a4, e4, h4⟩ := wf_u32 w4
  obtain ⟨a5, e5, h5⟩ := wf_u32 w5
  obtain ⟨a6, e6, h6⟩ := wf_u32 w6
  obtain ⟨a8, e8, h8⟩ := wf_u32 w8
  obtain ⟨b1, f1, i1⟩ := wf_u32 y1
  obtain ⟨b3, f3, i3⟩ := wf_u32 y3
  obtain ⟨b4, f4, i4⟩ := wf_u32 y4
  obtain ⟨b5, f5, i5⟩ := wf_u32 y5
  obtain ⟨d1, g1, j1⟩ := wf_u32 z1
  obtain ⟨d2, g2, j2⟩ := wf_u32 z2
  obtain ⟨d4, g4, j4⟩ := wf_u32 z4
  obtain ⟨d5, g5, j5⟩ := wf_u32 z5
  rw [e1, e2, e3, e4, e5, e6, e8, f1, f3, f4, f5, g1, g2, g4, g5]
  exact back_core (wf_bytes wP) h1 h2 h3 h4 h5 h6 h8 (wf_bytes w7) (wf_bytes w9) (wf_bytes w10) (wf_bytes y6) i1 i3 i4 i5 j2 j4 j5 (wf_u32s z6) r7 r9 r10 s6 t3 t6

end Go.Rf.W.Pure
