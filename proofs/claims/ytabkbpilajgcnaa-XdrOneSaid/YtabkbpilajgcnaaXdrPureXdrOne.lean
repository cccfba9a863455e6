/-
  What one reader takes, the writer writes: the plain law.
-/
import Derived.Test.YtabkbpilajgcnaaXdrFXdrOne
import Derived.Test.YtabkbpilajgcnaaPlXdrList
import Derived.Test.YtabkbpilajgcnaaRfC
set_option linter.unusedVariables false
set_option maxRecDepth 10000
namespace Go.Rf.W.Pure
open Go Go.Rf Go.Rf.W

noncomputable def oneFin (next : (List Int) × Int × Int → Option (Unit ⊕ Unit)) (x : (List Int) × Int × Int) (r21 : Int × Int × Int × List Int × Int × List Int) : Option (Unit ⊕ Unit) :=
  (Option.bind (xdr_Reader_Why (r21.1, r21.2.1, r21.2.2.1, r21.2.2.2.1)) fun r22 =>
  (Option.bind
  (Option.bind (granarylaw01_num r22.1) fun r23 =>
  (cond (decide (r23 = (0 : Int)))
  (Option.bind (xdr_Writer_Why_v1 (r21.2.2.2.2.1, r21.2.2.2.2.2)) fun r25 =>
  (Option.bind (granarylaw01_num r25.1) fun r26 =>
  (cond (!(decide (r26 = (0 : Int))))
  (some (true, r22.2.2.1, r22.2.2.2.1, r22.2.2.2.2.1, r22.2.2.2.2.2, r25.2.1, r25.2.2))
  (Option.bind (xdr_Reader_At (r22.2.2.1, r22.2.2.2.1, r22.2.2.2.2.1, r22.2.2.2.2.2)) fun r28 =>
  (cond (decide ((((List.length x.1) : Nat) : Int) < r28.1))
  (some (true, r28.2.1, r28.2.2.1, r28.2.2.2.1, r28.2.2.2.2, r25.2.1, r25.2.2))
  (Option.bind (xdr_Writer_Bytes (r25.2.1, r25.2.2)) fun r31 =>
  (Option.bind (xdr_Reader_At (r28.2.1, r28.2.2.1, r28.2.2.2.1, r28.2.2.2.2)) fun r33 =>
  (cond ((decide ((0 : Int) ≤ r33.1)) && (decide (r33.1 ≤ (((List.length x.1) : Nat) : Int))))
  ((some ((!(decide ((List.map (fun (n : Int) => UInt8.ofNat n.toNat) r31.2.2) = (List.map (fun (n : Int) => UInt8.ofNat n.toNat) (List.take (Int.toNat r33.1) (List.drop 0 x.1)))))), r33.2.1, r33.2.2.1, r33.2.2.2.1, r33.2.2.2.2, r31.1, r31.2.1)))
  none))))))))
  (some (false, r22.2.2.1, r22.2.2.2.1, r22.2.2.2.2.1, r22.2.2.2.2.2, r21.2.2.2.2.1, r21.2.2.2.2.2))))
  fun r37 =>
  (cond r37.1
  (some (.inl ()))
  (next (x.1, x.2.1, (wrapF .i64 (x.2.2 + (1 : Int))))))))

noncomputable def oneStage (N : Nat) (x : (List Int) × Int × Int) (r2 : List Int) : Option (Int × Int × Int × List Int × Int × List Int) :=
  (cond (decide (x.2.2 = (0 : Int)))
  (Option.bind (xdr_Reader_Bool N ((0 : Int), (0 : Int), (0 : Int), r2)) fun r5 =>
  (Option.bind (xdr_Writer_Bool_v1 N (r5.1, (0 : Int))) fun r6 =>
  (some (r5.2.1, r5.2.2.1, r5.2.2.2.1, r5.2.2.2.2, r6.1, r6.2))))
  (Option.bind
  (cond (decide (x.2.2 = (1 : Int)))
  (Option.bind (xdr_Reader_Text N (x.2.1, (0 : Int), (0 : Int), (0 : Int), r2)) fun r8 =>
  (Option.bind (xdr_Writer_Text_v2 N (r8.1, (((List.length r8.1) : Nat) : Int), (0 : Int))) fun r10 =>
  (some (r8.2.1, r8.2.2.1, r8.2.2.2.1, r8.2.2.2.2, r10.1, r10.2))))
  (Option.bind
  (cond (decide (x.2.2 = (2 : Int)))
  (Option.bind (xdr_List_string N (x.2.1, (0 : Int), (0 : Int), (0 : Int), r2)) fun r12 =>
  (Option.bind (xdr_PutList_string N (r12.2.2.2.2, (((List.length r12.2.2.2.2) : Nat) : Int), (0 : Int))) fun r14 =>
  (some (r12.1, r12.2.1, r12.2.2.1, r12.2.2.2.1, r14.1, r14.2))))
  (Option.bind
  (cond (decide (x.2.2 = (3 : Int)))
  (Option.bind (xdr_Chain_string_v1 N (x.2.1, (0 : Int), (0 : Int), (0 : Int), r2)) fun r16 =>
  (Option.bind (xdr_PutChain_string_v1 N (r16.2.2.2.2, (0 : Int))) fun r17 =>
  (some (r16.1, r16.2.1, r16.2.2.1, r16.2.2.2.1, r17.1, r17.2))))
  (some ((0 : Int), (0 : Int), (0 : Int), r2, (0 : Int), ([] : List Int))))
  fun r18 =>
  (some (r18.1, r18.2.1, r18.2.2.1, r18.2.2.2.1, r18.2.2.2.2.1, r18.2.2.2.2.2))))
  fun r19 =>
  (some (r19.1, r19.2.1, r19.2.2.1, r19.2.2.2.1, r19.2.2.2.2.1, r19.2.2.2.2.2))))
  fun r20 =>
  (some (r20.1, r20.2.1, r20.2.2.1, r20.2.2.2.1, r20.2.2.2.2.1, r20.2.2.2.2.2))))

theorem one_form (N : Nat) (next) (D : List Int) (M k : Int) (hk : k < 4) (hD : D.length < 1000000) : granarylaw01_XdrOne_b0 N next (D, M, k) = Option.bind (oneStage N (D, M, k) D) (oneFin next (D, M, k)) := by
  unfold granarylaw01_XdrOne_b0 xdr_NewReader_v1
  dsimp only
  rw [deT hk, cond_true, clone1_ok hD, Option.bind_some, Option.bind_some, show xdr_NewWriter () = some () from rfl, Option.bind_some]
  rfl

theorem one_fin (next) {D : List Int} {M k : Int} {a' : Nat} {w p' ww : Int} {buf : List Int} (hD : D.length < 1000000) (h : w ≠ 0 ∨ (w = 0 ∧ ww = 0 ∧ a' ≤ D.length ∧ D = buf ++ D.drop a' ∧ buf.length = a')) :
    oneFin next (D, M, k) ((a' : Int), w, p', D, ww, buf) = next (D, M, wrapF .i64 (k + 1)) := by
  unfold oneFin
  dsimp only
  rw [show xdr_Reader_Why ((a' : Int), w, p', D) = some (w, p', (a' : Int), w, p', D) from rfl, Option.bind_some]
  dsimp only
  rw [show granarylaw01_num w = some w from rfl, Option.bind_some]
  rcases h with hw | ⟨rfl, rfl, h1, h2, h3⟩
  · rw [deF hw]
    rfl
  · have hbuf : buf = D.take a' := by
      conv => rhs; rw [h2]
      rw [List.take_left' h3]
    rw [show decide ((0 : Int) = 0) = true from rfl, cond_true, show xdr_Writer_Why_v1 (0, buf) = some (0, 0, buf) from rfl, Option.bind_some]
    dsimp only
    rw [show granarylaw01_num 0 = some 0 from rfl, Option.bind_some, show decide ((0 : Int) = 0) = true from rfl, Bool.not_true, cond_false, show xdr_Reader_At ((a' : Int), 0, p', D) = some ((a' : Int), (a' : Int), 0, p', D) from rfl, Option.bind_some]
    dsimp only
    rw [deF (p := ((D.length : Nat) : Int) < (a' : Int)) (by omega), cond_false]
    unfold xdr_Writer_Bytes
    dsimp only
    rw [clone_ok (by omega), Option.bind_some, Option.bind_some]
    dsimp only
    rw [show xdr_Reader_At ((a' : Int), 0, p', D) = some ((a' : Int), (a' : Int), 0, p', D) from rfl, Option.bind_some]
    dsimp only
    rw [deT (p := (0 : Int) ≤ (a' : Int)) (by omega), deT (p := (a' : Int) ≤ ((D.length : Nat) : Int)) (by omega), Bool.and_self, cond_true, Option.bind_some, List.drop_zero, Int.toNat_natCast, ← hbuf]
    dsimp only
    rw [deS]
    rfl

theorem one_stage {N : Nat} {D : List Int} {M k : Int} (hb : Bts D) (hD : D.length ≤ 60000) (hN : 100000 < N) (hk : k = 0 ∨ k = 1 ∨ k = 2 ∨ k = 3) :
    ∃ (a' : Nat) (w p' ww : Int) (buf : List Int), oneStage N (D, M, k) D = some ((a' : Int), w, p', D, ww, buf) ∧ (w ≠ 0 ∨ (w = 0 ∧ ww = 0 ∧ a' ≤ D.length ∧ D = buf ++ D.drop a' ∧ buf.length = a')) := by
  have good : ∀ {a' : Nat} {buf : List Int}, a' ≤ D.length → D.drop 0 = buf ++ D.drop a' → (D = buf ++ D.drop a' ∧ buf.length = a') := by
    intro a' buf h1 h2
    rw [List.drop_zero] at h2
    refine ⟨h2, ?_⟩
    have := congrArg List.length h2
    simp at this
    omega
  unfold oneStage
  dsimp only
  rcases hk with rfl | rfl | rfl | rfl
  · rw [show decide ((0 : Int) = 0) = true from rfl, cond_true]
    rcases bool_ok (N := N) (a := 0) (p := 0) (D := D) hb (by omega) (by omega) (by omega) with ⟨w, hw, hg⟩ | ⟨b, h3, h4, hg⟩
    · rw [show ((0 : Nat) : Int) = 0 from rfl] at hg
      rw [hg, Option.bind_some]
      dsimp only
      rw [wbool0_ok (by omega)]
      exact ⟨0, w, 0, 0, _, rfl, .inl hw⟩
    · rw [show ((0 : Nat) : Int) = 0 from rfl] at hg
      rw [hg, Option.bind_some]
      dsimp only
      rw [wbool0_ok (by omega)]
      exact ⟨0 + 4, 0, 0, 0, _, rfl, .inr ⟨rfl, rfl, h3, good h3 h4⟩⟩
  · rw [show decide ((1 : Int) = 0) = false from rfl, cond_false, show decide ((1 : Int) = 1) = true from rfl, cond_true]
    rcases text_ok (N := N) (a := 0) (M := M) (p := 0) (D := D) hb (by omega) (by omega) (by omega) with ⟨hw, hg⟩ | ⟨t, h1, h3, h4, hg⟩
    · rw [show ((0 : Nat) : Int) = 0 from rfl] at hg
      rw [hg, Option.bind_some]
      dsimp only
      rw [wtext0_ok (by simp) (by omega) (by omega)]
      exact ⟨0, _, 0, 0, _, rfl, .inl hw⟩
    · rw [show ((0 : Nat) : Int) = 0 from rfl] at hg
      rw [hg, Option.bind_some]
      dsimp only
      have := encT_length t
      rw [wtext0_ok (by omega) (by omega) (by omega)]
      exact ⟨0 + (encT t).length, 0, 0, 0, _, rfl, .inr ⟨rfl, rfl, h3, good h3 h4⟩⟩
  · rw [show decide ((2 : Int) = 0) = false from rfl, cond_false, show decide ((2 : Int) = 1) = false from rfl, cond_false, show decide ((2 : Int) = 2) = true from rfl, cond_true]
    rcases rlist_ok (N := N) (a := 0) (M := M) (p := 0) (D := D) hb (by omega) (by omega) (by omega) with ⟨a', w, p', q1, q2, q3⟩ | ⟨a', p', ts, q1, q2, q3, q4, q5⟩
    · rw [show ((0 : Nat) : Int) = 0 from rfl] at q3
      rw [q3, Option.bind_some]
      dsimp only
      rw [wlist_ok (ts := []) (by simp) (by omega) (by simp) (by simp; omega)]
      exact ⟨a', w, p', 0, _, rfl, .inl q1⟩
    · rw [show ((0 : Nat) : Int) = 0 from rfl] at q2
      rw [q2, Option.bind_some]
      dsimp only
      obtain ⟨g1, g2⟩ := good q1 q5
      have g3 := encTs_len ts
      rw [List.length_append, encN_length] at g2
      rw [wlist_ok q3 (by omega) (by omega) (by omega)]
      exact ⟨a', 0, p', 0, _, rfl, .inr ⟨rfl, rfl, q1, good q1 q5⟩⟩
  · rw [show decide ((3 : Int) = 0) = false from rfl, cond_false, show decide ((3 : Int) = 1) = false from rfl, cond_false, show decide ((3 : Int) = 2) = false from rfl, cond_false, show decide ((3 : Int) = 3) = true from rfl, cond_true]
    rcases rchain_ok (N := N) (a := 0) (M := M) (p := 0) (D := D) hb (by omega) (by omega) (by omega) with ⟨a', w, p', q1, q2, q3⟩ | ⟨a', p', ts, q1, q2, q3, q5⟩
    · rw [show ((0 : Nat) : Int) = 0 from rfl] at q3
      rw [q3, Option.bind_some]
      dsimp only
      rw [wchain_ok (ts := []) (by simp) (by simp) (by simp; omega)]
      exact ⟨a', w, p', 0, _, rfl, .inl q1⟩
    · rw [show ((0 : Nat) : Int) = 0 from rfl] at q2
      rw [q2, Option.bind_some]
      dsimp only
      obtain ⟨g1, g2⟩ := good q1 q5
      have g3 := encC_len ts
      rw [List.length_append, encN_length] at g2
      rw [wchain_ok q3 (by omega) (by omega)]
      exact ⟨a', 0, p', 0, _, rfl, .inr ⟨rfl, rfl, q1, good q1 q5⟩⟩

theorem one_step {N : Nat} {D : List Int} {M k : Int} (next) (hb : Bts D) (hD : D.length ≤ 60000) (hN : 100000 < N) (hk : k = 0 ∨ k = 1 ∨ k = 2 ∨ k = 3) :
    granarylaw01_XdrOne_b0 N next (D, M, k) = next (D, M, k + 1) := by
  obtain ⟨a', w, p', ww, buf, h1, h2⟩ := one_stage (M := M) hb hD hN hk
  rw [one_form N next D M k (by omega) (by omega), h1, Option.bind_some, one_fin next (by omega) h2, wrapF_i64 (by omega) (by omega)]

theorem xdr_live_big : granarylaw01_live 100001 () = some true := by decide +kernel

theorem xdrOne (x : EKs [(.sl (.int .u8)), (.int .i64)]) (hw : wfs [(.sl (.int .u8)), (.int .i64)] x) : ∃ N, granarylaw01_XdrOne N (x.1, x.2) = some true := by
  refine ⟨100001, ?_⟩
  have hb : Bts x.1 := wf_bytes hw.1
  unfold granarylaw01_XdrOne
  dsimp only
  by_cases h : (60000 : Int) < ((x.1.length : Nat) : Int)
  · rw [deT h, cond_true, xdr_live_big]
    rfl
  rw [deF h, cond_false]
  unfold granarylaw01_XdrOne_l0
  have hD : x.1.length ≤ 60000 := by omega
  have hr : ∀ f k, loopF (granarylaw01_XdrOne_b0 100001) (f + 1) (x.1, x.2, k) = granarylaw01_XdrOne_b0 100001 (loopF (granarylaw01_XdrOne_b0 100001) f) (x.1, x.2, k) := fun f k => rfl
  rw [show (100001 : Nat) = 99996 + 1 + 1 + 1 + 1 + 1 from rfl] at hr ⊢
  rw [hr, one_step _ hb hD (by decide) (by omega), hr, one_step _ hb hD (by decide) (by omega), hr, one_step _ hb hD (by decide) (by omega), hr, one_step _ hb hD (by decide) (by omega), hr]
  unfold granarylaw01_XdrOne_b0
  rw [show decide ((x.1, x.2, (0 : Int) + 1 + 1 + 1 + 1).2.2 < (4 : Int)) = false from rfl, cond_false, Option.bind_some]
  dsimp only
  rw [show (99996 + 1 + 1 + 1 + 1 + 1 : Nat) = 100001 from rfl, xdr_live_big]
  rfl

end Go.Rf.W.Pure
