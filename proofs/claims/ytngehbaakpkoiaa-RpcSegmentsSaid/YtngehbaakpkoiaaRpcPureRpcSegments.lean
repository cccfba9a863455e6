/-
  RpcSegments, plain: however a stream is cut, the records are the same.
-/
import Derived.Test.YtngehbaakpkoiaaRpcFRpcSegments
import Derived.Test.YtngehbaakpkoiaaPlRpcSeg2
import Derived.Test.YtngehbaakpkoiaaPlRpc
import Derived.Test.YtngehbaakpkoiaaRfC
set_option linter.unusedVariables false
set_option linter.unusedSimpArgs false
set_option maxRecDepth 10000
namespace Go.Rf.W.Pure
open Go Go.Rf Go.Rf.W

theorem s_iter {A R : Type} {b : (A → Option R) → A → Option R} (st : Nat → A) (n : Nat) {r : R} (hs : ∀ i, i < n → ∀ nx, b nx (st i) = nx (st (i + 1))) (he : ∀ nx, b nx (st n) = some r) : ∀ f, n < f → loopF b f (st 0) = some r := by
  have key : ∀ d i f, i + d = n → d < f → loopF b f (st i) = some r := by
    intro d
    induction d with
    | zero =>
      intro i f hi hf
      obtain ⟨f, rfl⟩ : ∃ g, f = g + 1 := ⟨f - 1, by omega⟩
      have : i = n := by omega
      subst this
      exact he _
    | succ d ih =>
      intro i f hi hf
      obtain ⟨f, rfl⟩ : ∃ g, f = g + 1 := ⟨f - 1, by omega⟩
      show b (loopF b f) (st i) = _
      rw [hs i (by omega)]
      exact ih (i + 1) f (by omega) (by omega)
  exact fun f hf => key n 0 f (by omega) hf

theorem same_ok {N : Nat} {x : List (List Int)} (hx : x.length < 100000) (hN : x.length < N) : granaryref21_Same N (x, x) = some true := by
  have key : granaryref21_Same_l0 N (x, x, (0 : Int)) = some (.inr ()) := by
    refine s_iter (b := granaryref21_Same_b0 N) (r := .inr ()) (fun i => (x, x, (i : Int))) x.length (fun i hi nx => ?_) (fun nx => ?_) N hN
    · unfold granaryref21_Same_b0
      dsimp only
      rw [deT (p := (i : Int) < ((x.length : Nat) : Int)) (by omega), cond_true, deT (p := (0 : Int) ≤ (i : Int)) (by omega), Bool.and_self, cond_true, cond_true, deS, Bool.not_true, cond_false, wrapF_i64 (by omega) (by omega)]
      rfl
    · unfold granaryref21_Same_b0
      dsimp only
      rw [deF (by omega), cond_false]
  unfold granaryref21_Same
  dsimp only
  rw [deS, Bool.not_true, cond_false, key, Option.bind_some]

theorem feed_on {N : Nat} {c : List Int} {t : FS} (hN : 8 < N) (hf : c.length < N) (hok : t.ok) (hb : Bts c) (hh : t.held + c.length < 500000) (hl : c.length < 100000) :
    ∃ u : FS, rpc_Framer_Feed_v1 N (c, (t.n : Int), t.last, (t.frags : Int), (t.held : Int), t.closed, t.head, t.part) = some u.res ∧ t.run c = u.on t.recs ∧ u.recs.length ≤ c.length := by
  have h := feed_ok (s := ⟨t.n, t.last, t.frags, t.held, t.closed, t.head, t.part, []⟩) hN hf hok hb rfl hh hl
  have hp := run_props c ⟨t.n, t.last, t.frags, t.held, t.closed, t.head, t.part, []⟩ hb hok
  refine ⟨_, h, ?_, by have := hp.2.1; simpa using this⟩
  rw [← run_on]
  obtain ⟨n, last, frags, held, closed, head, part, recs⟩ := t
  unfold FS.on
  dsimp only
  rw [List.append_nil]

theorem seg_loop {N : Nat} {p sizes : List Int} {e : Int} (hb : Bts p) (hp : p.length ≤ 20000) (hs : sizes.length ≤ 60) (hN : 25000 < N) : ∀ (d f i pos : Nat) (code : Int), i + d = sizes.length → d + 1 < f → pos ≤ p.length →
    loopF (granarylaw21_RpcSegments_b0 N) f (p, sizes, e, (pos : Int), code, (i : Int), ((FS.new.run (p.take pos)).n : Int), (FS.new.run (p.take pos)).last, ((FS.new.run (p.take pos)).frags : Int), ((FS.new.run (p.take pos)).held : Int), (FS.new.run (p.take pos)).closed, (FS.new.run (p.take pos)).recs, (FS.new.run (p.take pos)).head, (FS.new.run (p.take pos)).part) =
      some (FS.new.run p).res := by
  have feeding : ∀ (pos m : Nat), pos + m ≤ p.length → ∃ u : FS, rpc_Framer_Feed_v1 N ((p.drop pos).take m, ((FS.new.run (p.take pos)).n : Int), (FS.new.run (p.take pos)).last, ((FS.new.run (p.take pos)).frags : Int), ((FS.new.run (p.take pos)).held : Int), (FS.new.run (p.take pos)).closed, (FS.new.run (p.take pos)).head, (FS.new.run (p.take pos)).part) = some u.res ∧
      FS.new.run (p.take (pos + m)) = u.on (FS.new.run (p.take pos)).recs ∧ (FS.new.run (p.take pos)).recs.length + u.recs.length ≤ p.length := by
    intro pos m hm
    have hq := run_props (p.take pos) FS.new (bts_take hb pos) new_ok
    have hl1 : (p.take pos).length = pos := by rw [List.length_take]; omega
    have hl2 : ((p.drop pos).take m).length = m := by rw [List.length_take, List.length_drop]; omega
    have h0 : FS.new.held = 0 := rfl
    have h1 : FS.new.recs.length = 0 := rfl
    obtain ⟨u, e1, e2, e3⟩ := feed_on (N := N) (c := (p.drop pos).take m) (t := FS.new.run (p.take pos)) (by omega) (by omega) hq.1 (bts_take (bts_drop hb pos) m) (by omega) (by omega)
    refine ⟨u, e1, ?_, by omega⟩
    rw [← e2, ← run_append]
    congr 1
    exact List.take_add
  have fin : ∀ (t u : FS) (r : List (List Int)), t = u.on r → u.res = (if t.closed = true then 210 else 0, (t.n : Int), t.last, (t.frags : Int), (t.held : Int), t.closed, u.recs, t.head, t.part) ∧ t.recs = r ++ u.recs := by
    intro t u r h
    subst h
    exact ⟨rfl, rfl⟩
  intro d
  induction d with
  | zero =>
    intro f i pos code hi hf hpos
    obtain ⟨f, rfl⟩ : ∃ g, f = g + 2 := ⟨f - 2, by omega⟩
    obtain ⟨u, e1, e2, e3⟩ := feeding pos (p.length - pos) (by omega)
    have hw : p.take (pos + (p.length - pos)) = p := List.take_of_length_le (by omega)
    rw [hw] at e2
    obtain ⟨e4, e5⟩ := fin _ u _ e2
    generalize FS.new.run (p.take pos) = t at *
    generalize FS.new.run p = T at *
    rw [e4] at e1
    show granarylaw21_RpcSegments_b0 N (granarylaw21_RpcSegments_b0 N (loopF (granarylaw21_RpcSegments_b0 N) f)) _ = _
    generalize loopF (granarylaw21_RpcSegments_b0 N) f = nx
    have hlast : ∀ y : Int × Int × Int × Bool × Int × Int × Bool × (List (List Int)) × (List Int) × (List Int), granarylaw21_RpcSegments_b0 N nx (p, sizes, e, y.1, y.2.1, ((i + 1 : Nat) : Int), y.2.2.1, y.2.2.2.1, y.2.2.2.2.1, y.2.2.2.2.2.1, y.2.2.2.2.2.2.1, y.2.2.2.2.2.2.2.1, y.2.2.2.2.2.2.2.2.1, y.2.2.2.2.2.2.2.2.2) = some (y.2.1, y.2.2.1, y.2.2.2.1, y.2.2.2.2.1, y.2.2.2.2.2.1, y.2.2.2.2.2.2.1, y.2.2.2.2.2.2.2.1, y.2.2.2.2.2.2.2.2.1, y.2.2.2.2.2.2.2.2.2) := fun y => by
      unfold granarylaw21_RpcSegments_b0
      dsimp only
      rw [deF (p := ((i + 1 : Nat) : Int) ≤ ((sizes.length : Nat) : Int)) (by omega), cond_false]
    generalize granarylaw21_RpcSegments_b0 N nx = nx' at hlast
    unfold granarylaw21_RpcSegments_b0
    dsimp only
    rw [deT (p := (i : Int) ≤ ((sizes.length : Nat) : Int)) (by omega), cond_true, wrapF_i64 (n := ((p.length : Nat) : Int) - (pos : Int)) (by omega) (by omega), deF (p := (i : Int) < ((sizes.length : Nat) : Int)) (by omega), cond_false, Option.bind_some]
    dsimp only
    rw [wrapF_i64 (n := (pos : Int) + (((p.length : Nat) : Int) - (pos : Int))) (by omega) (by omega), show (pos : Int) + (((p.length : Nat) : Int) - (pos : Int)) = ((p.length : Nat) : Int) by omega, deT (p := (0 : Int) ≤ (pos : Int)) (by omega), deT (p := (pos : Int) ≤ ((p.length : Nat) : Int)) (by omega), deT (p := ((p.length : Nat) : Int) ≤ ((p.length : Nat) : Int)) (by omega), Bool.and_self, Bool.and_self, cond_true, Int.toNat_natCast, Int.toNat_natCast, e1, Option.bind_some]
    dsimp only
    rw [fits24 (by omega), cond_true, show ∀ n, granarylaw21_num n = some n from fun _ => rfl, Option.bind_some, Option.bind_some, wrapF_i64 (n := (i : Int) + 1) (by omega) (by omega), show (i : Int) + 1 = ((i + 1 : Nat) : Int) by omega]
    dsimp only
    rw [hlast (_, _, _, _, _, _, _, _, _, _)]
    unfold FS.res
    rw [e5]
  | succ d ih =>
    intro f i pos code hi hf hpos
    obtain ⟨f, rfl⟩ : ∃ g, f = g + 1 := ⟨f - 1, by omega⟩
    have ihs := fun pos' code' h => ih f (i + 1) pos' code' (by omega) (by omega) h
    show granarylaw21_RpcSegments_b0 N (loopF (granarylaw21_RpcSegments_b0 N) f) _ = _
    generalize loopF (granarylaw21_RpcSegments_b0 N) f = nx at ihs
    have hil : i < sizes.length := by omega
    have hgd : List.getD sizes i (EK.dflt (.int .i64)) = sizes[i] := by rw [List.getD, List.getElem?_eq_getElem hil]; rfl
    unfold granarylaw21_RpcSegments_b0
    dsimp only
    rw [deT (p := (i : Int) ≤ ((sizes.length : Nat) : Int)) (by omega), cond_true, wrapF_i64 (n := ((p.length : Nat) : Int) - (pos : Int)) (by omega) (by omega), deT (p := (i : Int) < ((sizes.length : Nat) : Int)) (by omega), cond_true, deT (p := (0 : Int) ≤ (i : Int)) (by omega), Bool.and_self, cond_true, cond_true, cond_true, Int.toNat_natCast, hgd]
    by_cases hskip : sizes[i] < 0 ∨ ((p.length : Nat) : Int) - (pos : Int) < sizes[i]
    · have hm : (bif decide (sizes[i] < 0) then some true else some (decide (((p.length : Nat) : Int) - (pos : Int) < sizes[i]))) = some true := by
        rcases hskip with h | h
        · rw [deT h]; rfl
        · rw [deT h]; cases decide (sizes[i] < 0) <;> rfl
      rw [hm, Option.bind_some, cond_true, Option.bind_some]
      dsimp only
      rw [Option.bind_some, wrapF_i64 (n := (i : Int) + 1) (by omega) (by omega), show (i : Int) + 1 = ((i + 1 : Nat) : Int) by omega]
      exact ihs pos code hpos
    · have hm : (bif decide (sizes[i] < 0) then some true else some (decide (((p.length : Nat) : Int) - (pos : Int) < sizes[i]))) = some false := by
        rw [deF (fun h => hskip (.inl h)), deF (fun h => hskip (.inr h))]; rfl
      obtain ⟨m, hmm⟩ : ∃ m : Nat, sizes[i] = (m : Int) := ⟨sizes[i].toNat, by omega⟩
      rw [hm, Option.bind_some, cond_false, Option.bind_some, hmm]
      dsimp only
      have hpm : pos + m ≤ p.length := by omega
      obtain ⟨u, e1, e2, e3⟩ := feeding pos m hpm
      obtain ⟨e4, e5⟩ := fin _ u _ e2
      have ihs' := ihs (pos + m) (if (FS.new.run (p.take (pos + m))).closed = true then 210 else 0) hpm
      generalize FS.new.run (p.take pos) = t at *
      generalize FS.new.run (p.take (pos + m)) = T at *
      rw [e4] at e1
      have hsub : pos + m - pos = m := by omega
      rw [wrapF_i64 (n := (pos : Int) + (m : Int)) (by omega) (by omega), show (pos : Int) + (m : Int) = ((pos + m : Nat) : Int) by omega, deT (p := (0 : Int) ≤ (pos : Int)) (by omega), deT (p := (pos : Int) ≤ ((pos + m : Nat) : Int)) (by omega), deT (p := ((pos + m : Nat) : Int) ≤ ((p.length : Nat) : Int)) (by omega), Bool.and_self, Bool.and_self, cond_true, Int.toNat_natCast, Int.toNat_natCast, hsub, e1, Option.bind_some]
      dsimp only
      rw [fits24 (by omega), cond_true, show ∀ n, granarylaw21_num n = some n from fun _ => rfl, Option.bind_some, Option.bind_some, wrapF_i64 (n := (i : Int) + 1) (by omega) (by omega), show (i : Int) + 1 = ((i + 1 : Nat) : Int) by omega]
      dsimp only
      rw [e5] at ihs'
      exact ihs'

theorem rpcSegments (x : EKs [(.sl (.int .u8)), (.sl (.int .i64))]) (hw : wfs [(.sl (.int .u8)), (.sl (.int .i64))] x) : ∃ N, granarylaw21_RpcSegments N (x.1, x.2) = some true := by
  obtain ⟨p, sizes⟩ := x
  have hb : Bts p := wf_bytes hw.1
  change List Int at p
  change List Int at sizes
  refine ⟨30000, ?_⟩
  unfold granarylaw21_RpcSegments
  dsimp only
  by_cases c0 : 20000 < List.length p
  · rw [deT (p := (20000 : Int) < ((List.length p : Nat) : Int)) (by omega), cond_true, Option.bind_some, cond_true, rpc_live]; rfl
  rw [deF (p := (20000 : Int) < ((List.length p : Nat) : Int)) (by omega), cond_false, Option.bind_some]
  by_cases c1 : 60 < List.length sizes
  · rw [deT (p := (60 : Int) < ((List.length sizes : Nat) : Int)) (by omega), cond_true, rpc_live]; rfl
  rw [deF (p := (60 : Int) < ((List.length sizes : Nat) : Int)) (by omega), cond_false, show rpc_NewFramer () = some () from rfl, Option.bind_some, Option.bind_some, feed0_ok (by decide) (by omega) hb (by omega), Option.bind_some]
  have hl := seg_loop (N := 30000) (p := p) (sizes := sizes) (e := (FS.new.run p).res.1) hb (by omega) (by omega) (by decide) sizes.length 30000 0 0 0 (by omega) (by omega) (Nat.zero_le _)
  have hl' : granarylaw21_RpcSegments_l0 30000 (p, sizes, (FS.new.run p).res.1, (0 : Int), (0 : Int), (0 : Int), (0 : Int), false, (0 : Int), (0 : Int), false, ([] : List (List Int)), ([] : List Int), ([] : List Int)) = some (FS.new.run p).res := hl
  have hrl := (run_props p FS.new hb new_ok).2.1
  have h1 : FS.new.recs.length = 0 := rfl
  rw [hl', Option.bind_some]
  generalize FS.new.run p = t at hrl ⊢
  unfold FS.res
  dsimp only
  have hn : ∀ n, granarylaw21_num n = some n := fun _ => rfl
  rw [same_ok (by omega) (by omega), Option.bind_some, cond_true, hn, Option.bind_some, deS, cond_true]
  unfold rpc_Framer_Closed_v1
  dsimp only
  rw [Option.bind_some, Option.bind_some]
  dsimp only
  rw [beq_self_eq_true, cond_true]
  unfold rpc_Framer_Left_v1
  dsimp only
  rw [Option.bind_some, Option.bind_some]
  dsimp only
  rw [deS, cond_true, rpc_live]
  rfl

end Go.Rf.W.Pure
