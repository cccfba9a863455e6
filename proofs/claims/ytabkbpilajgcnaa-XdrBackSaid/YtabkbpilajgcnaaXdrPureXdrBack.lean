/-
  There and back: the plain law.
-/
import Derived.Test.YtabkbpilajgcnaaXdrFXdrBack
import Derived.Test.YtabkbpilajgcnaaPlXdrBack
import Derived.Test.YtabkbpilajgcnaaRfC
set_option linter.unusedVariables false
set_option maxRecDepth 10000
namespace Go.Rf.W.Pure
open Go Go.Rf Go.Rf.W

theorem xdr_live_back : granarylaw01_live 100001 () = some true := by decide +kernel

theorem back_loop (i2 n3 : Int) (b4 : Bool) (t : List UInt8) (ns : List Int) (ts : List (List UInt8)) (hts : ts.length ≤ 60) : ∀ (d f i : Nat), i + d = ts.length → d < f →
    loopF (granarylaw01_XdrBack_b0 100001) f (i2, n3, b4, t, ns, ts, (i : Int)) = some (.inl true) ∨ (loopF (granarylaw01_XdrBack_b0 100001) f (i2, n3, b4, t, ns, ts, (i : Int)) = some (.inr ()) ∧ ∀ u ∈ ts.drop i, u.length ≤ 7) := by
  intro d
  induction d with
  | zero =>
    intro f i hi hf
    obtain ⟨f, rfl⟩ : ∃ g, f = g + 1 := ⟨f - 1, by omega⟩
    refine .inr ⟨?_, by rw [List.drop_of_length_le (by omega)]; simp⟩
    show granarylaw01_XdrBack_b0 100001 _ _ = _
    unfold granarylaw01_XdrBack_b0
    dsimp only
    rw [deF (by omega), cond_false]
  | succ d ih =>
    intro f i hi hf
    obtain ⟨f, rfl⟩ : ∃ g, f = g + 1 := ⟨f - 1, by omega⟩
    have hlt : i < ts.length := by omega
    have hg : List.getD ts i (EK.dflt .str) = ts[i] := by simp [List.getD, hlt]
    have hform : loopF (granarylaw01_XdrBack_b0 100001) (f + 1) (i2, n3, b4, t, ns, ts, (i : Int)) = granarylaw01_XdrBack_b0 100001 (loopF (granarylaw01_XdrBack_b0 100001) f) (i2, n3, b4, t, ns, ts, (i : Int)) := rfl
    rw [hform]
    clear hform
    have e1 : ((i : Int) + 1) = ((i + 1 : Nat) : Int) := by omega
    have h := ih f (i + 1) (by omega) (by omega)
    generalize hnx : loopF (granarylaw01_XdrBack_b0 100001) f = nx at *
    unfold granarylaw01_XdrBack_b0
    dsimp only
    rw [deT (p := (i : Int) < (ts.length : Int)) (by omega), cond_true, deT (p := (0 : Int) ≤ (i : Int)) (by omega), Bool.and_self, cond_true, Int.toNat_natCast, hg, wrapF_i64 (by omega) (by omega), e1]
    by_cases h7 : (7 : Int) < ((ts[i].length : Nat) : Int)
    · rw [deT h7, cond_true, xdr_live_back]
      exact .inl rfl
    · rw [deF h7, cond_false]
      rcases h with h | ⟨h, h2⟩
      · exact .inl h
      · refine .inr ⟨h, fun u hu => ?_⟩
        rw [List.drop_eq_getElem_cons hlt] at hu
        rcases List.mem_cons.mp hu with rfl | hu
        · omega
        · exact h2 u hu

theorem encC_mod (l : List (List UInt8)) : (encC l).length % 4 = 0 := by
  induction l with
  | nil => rfl
  | cons t l ih =>
    have h1 := encT_length t
    have h2 : (t.length + padn t.length) % 4 = 0 := by unfold padn; omega
    simp only [encC, List.map_cons, List.flatten_cons, List.length_append, encN_length] at ih ⊢
    omega

theorem ofS_map (t : List UInt8) : List.map (fun (b : UInt8) => (b.toNat : Int)) t = ofS t := rfl
theorem toS_map (l : List Int) : List.map (fun (n : Int) => UInt8.ofNat n.toNat) l = toS l := rfl

theorem back_main {n1 n3 : Nat} {i2 : Int} {b4 : Bool} {t : List UInt8} {ns : List Nat} {ts : List (List UInt8)} (h1 : n1 < 4294967296) (h2 : -2147483648 ≤ i2) (h2' : i2 < 2147483648) (h3 : n3 < 18446744073709551616)
    (h4 : ∀ m ∈ ns, m < 4294967296) (h5 : t.length + 8 * ns.length ≤ 60000) (h6 : ts.length ≤ 60) (h7 : ∀ u ∈ ts, u.length ≤ 7)
    (hl : granarylaw01_XdrBack_l0 100001 (i2, (n3 : Int), b4, t, ns.map Int.ofNat, ts, 0) = some (.inr ())) : granarylaw01_XdrBack 100001 ((n1 : Int), i2, (n3 : Int), b4, t, ns.map Int.ofNat, ts) = some true := by
  have hpt := padn_lt t.length
  have hC := encC_le ts h7
  have hT := encT_length t
  have hCm := encC_mod ts
  have hTm : (t.length + padn t.length) % 4 = 0 := by unfold padn; omega
  obtain ⟨m2, hm2⟩ : ∃ m, m = (i2 % 4294967296).toNat := ⟨_, rfl⟩
  obtain ⟨D, hD⟩ : ∃ D, D = encN n1 ++ (encN m2 ++ (be 8 n3 ++ (encN b4.toNat ++ (encT t ++ (encF (ofS t) ++ ((encN ns.length ++ encNs ns) ++ ((encC ts ++ encN 0) ++ ((encN 1 ++ encN n1) ++ [])))))))) := ⟨_, rfl⟩
  have hF : (encF (ofS t)).length = t.length + padn t.length := by rw [encF_length, ofS_length]
  have hN := encNs_length ns
  have hlen : D.length = 4 + (4 + (8 + (4 + ((encT t).length + ((encF (ofS t)).length + ((4 + 4 * ns.length) + (((encC ts).length + 4) + 8))))))) := by
    rw [hD]; simp only [List.length_append, encN_length, be_length, hN, List.length_nil]
  have hb : Bts D := by
    intro x hx
    rw [hD] at hx
    simp only [List.mem_append] at hx
    have bn : ∀ n, x ∈ encN n → 0 ≤ x ∧ x < 256 := fun n h => be_bytes _ _ x h
    rcases hx with hx | hx | hx | hx | hx | hx | (hx | hx) | (hx | hx) | (hx | hx) | hx
    · exact bn _ hx
    · exact bn _ hx
    · exact be_bytes _ _ x hx
    · exact bn _ hx
    · exact encT_bts t x hx
    · simp only [encF, List.mem_append] at hx
      rcases hx with hx | hx
      · exact ofS_bts t x hx
      · exact rep_bts _ x hx
    · exact bn _ hx
    · simp only [encNs, List.mem_flatten, List.mem_map] at hx
      obtain ⟨l, ⟨n, _, rfl⟩, hx⟩ := hx
      exact bn _ hx
    · simp only [encC, List.mem_flatten, List.mem_map] at hx
      obtain ⟨l, ⟨u, _, rfl⟩, hx⟩ := hx
      rcases List.mem_append.mp hx with hx | hx
      · exact bn _ hx
      · exact encT_bts u x hx
    · exact bn _ hx
    · exact bn _ hx
    · exact bn _ hx
    · cases hx
  have d0 : D.drop 0 = encN n1 ++ (encN m2 ++ (be 8 n3 ++ (encN b4.toNat ++ (encT t ++ (encF (ofS t) ++ ((encN ns.length ++ encNs ns) ++ ((encC ts ++ encN 0) ++ ((encN 1 ++ encN n1) ++ [])))))))) := by rw [List.drop_zero]; exact hD
  have d1 := drop_more d0
  have d2 := drop_more d1
  have d3 := drop_more d2
  have d4 := drop_more d3
  have d5 := drop_more d4
  have d6 := drop_more d5
  have d7 := drop_more d6
  have d8 := drop_more d7
  simp only [encN_length, be_length, Nat.zero_add] at d1 d2 d3 d4 d5 d6 d7 d8
  unfold granarylaw01_XdrBack
  dsimp only
  rw [hl]
  rw [List.length_map, wrapF_i64 (n := (8 : Int) * ((ns.length : Nat) : Int)) (by omega) (by omega), wrapF_i64 (by omega) (by omega), deF (p := (60000 : Int) < _) (by omega), cond_false, Option.bind_some, deF (p := (60 : Int) < _) (by omega), cond_false, Option.bind_some]
  dsimp only
  rw [show xdr_NewWriter () = some () from rfl, Option.bind_some, wuint0_ok h1 (by omega), Option.bind_some]
  dsimp only
  rw [wint_ok (by simp) (by omega), Option.bind_some, ← hm2]
  dsimp only
  rw [whyper_ok (by simp) (by omega), Option.bind_some]
  dsimp only
  rw [wbool_ok (by simp) (by omega), Option.bind_some]
  dsimp only
  rw [wtext_ok (by simp; omega) (by omega) (by omega), Option.bind_some]
  dsimp only
  rw [ofS_map, wfixed2_ok (by simp; omega) (by omega), Option.bind_some]
  dsimp only
  rw [wnums_ok h4 (by omega) (by simp; omega) (by omega), Option.bind_some]
  dsimp only
  rw [wchain2_ok h7 (by omega) (by simp; omega) (by omega), Option.bind_some]
  dsimp only
  rw [woption_ok h1 (by simp; omega) (by omega), Option.bind_some]
  dsimp only
  have hDD : encN n1 ++ encN m2 ++ be 8 n3 ++ encN b4.toNat ++ encT t ++ encF (ofS t) ++ (encN ns.length ++ encNs ns) ++ (encC ts ++ encN 0) ++ (encN 1 ++ encN n1) = D := by
    rw [hD]; simp only [List.append_assoc, List.append_nil]
  rw [hDD]
  unfold xdr_Writer_Bytes xdr_NewReader
  dsimp only
  rw [clone_ok (by omega), Option.bind_some, Option.bind_some]
  dsimp only
  rw [clone1_ok (by omega), Option.bind_some, Option.bind_some]
  rw [show xdr_Writer_Why_v1 (0, D) = some (0, 0, D) from rfl, Option.bind_some]
  dsimp only
  rw [show granarylaw01_num 0 = some 0 from rfl, Option.bind_some, show decide ((0 : Int) = 0) = true from rfl, Bool.not_true, cond_false]
  have hmod : Int.tmod ((D.length : Nat) : Int) 4 = 0 := by
    show ((D.length % 4 : Nat) : Int) = 0
    omega
  rw [deT hmod, Bool.not_true, cond_false]
  have u1 := (uint_enc (N := 100001) (p := 0) hb (by omega) (by omega) (by omega) h1 d0).1
  rw [show ((0 : Nat) : Int) = 0 from rfl] at u1
  rw [u1, Option.bind_some]
  dsimp only
  rw [deS, Bool.not_true, cond_false, int_enc hb (by omega) (by omega) (by omega) h2 h2' (hm2 ▸ d1), Option.bind_some]
  dsimp only
  rw [deS, Bool.not_true, cond_false, hyper_enc hb (by omega) (by omega) (by omega) h3 d2, Option.bind_some]
  dsimp only
  rw [deS, Bool.not_true, cond_false, bool_enc hb (by omega) (by omega) (by omega) d3, Option.bind_some]
  dsimp only
  rw [beS, Bool.not_true, cond_false, text_enc hb (by omega) (by omega) (by omega) d4 (by omega), Option.bind_some]
  dsimp only
  have hf := fixed_enc (N := 100001) (p := 0) hb (by omega) (by omega) (by omega) d5
  rw [ofS_length] at hf
  rw [deS, Bool.not_true, cond_false, hf, Option.bind_some]
  dsimp only
  rw [toS_map, toS_ofS, deS, Bool.not_true, cond_false, rnums_ok hb (by omega) (by omega) (by omega) h4 (by omega) d6, Option.bind_some]
  dsimp only
  rw [same_ok (by simp; omega) (by simp; omega), Option.bind_some, Bool.not_true, cond_false]
  have hlN : (encN ns.length ++ encNs ns).length = 4 + 4 * ns.length := by simp [hN]
  have hlC : (encC ts ++ encN 0).length = (encC ts).length + 4 := by simp
  rw [rchain_enc hb (by omega) (by omega) (by omega) h7 (by omega) d7, Option.bind_some]
  dsimp only
  rw [texts_ok (by omega) (by omega), Option.bind_some, Option.bind_some]
  dsimp only
  rw [Bool.not_true, cond_false, roption_enc hb (by omega) (by omega) (by omega) h1 d8, Option.bind_some]
  dsimp only
  rw [deS, cond_true]
  unfold xdr_Reader_Done
  dsimp only
  rw [show decide ((0 : Int) = 0) = true from rfl, cond_true, Option.bind_some, deF (by omega), cond_false, Option.bind_some]
  dsimp only
  rw [show granarylaw01_num 0 = some 0 from rfl, Option.bind_some, show decide ((0 : Int) = 0) = true from rfl, cond_true, xdr_live_back]
  rfl

theorem xdrBack (x : EKs [(.int .u32), (.int .i32), (.int .u64), .bool, .str, (.sl (.int .u32)), (.sl .str)]) (hw : wfs [(.int .u32), (.int .i32), (.int .u64), .bool, .str, (.sl (.int .u32)), (.sl .str)] x) (hr : rchs [(.int .u32), (.int .i32), (.int .u64), .bool, .str, (.sl (.int .u32)), (.sl .str)] x) : ∃ N, granarylaw01_XdrBack N (x.1, x.2.1, x.2.2.1, x.2.2.2.1, x.2.2.2.2.1, x.2.2.2.2.2.1, x.2.2.2.2.2.2) = some true := by
  obtain ⟨x1, x2, x3, b4, t, l, ts⟩ := x
  obtain ⟨w1, w2, w3, _, _, ⟨_, w6⟩, _⟩ := hw
  obtain ⟨_, _, _, _, r5, r6, _⟩ := hr
  obtain ⟨n1, rfl, h1⟩ := wf_u32 w1
  obtain ⟨n3, rfl, h3⟩ := wf_u64 w3
  have h2 := wf_i32 w2
  have r5 : t.length ≤ 140737488355328 := r5
  have r6 : l.length ≤ 140737488355328 := r6
  refine ⟨100001, ?_⟩
  dsimp only at *
  have live : ∀ c : Bool, c = true → granarylaw01_XdrBack 100001 ((n1 : Int), x2, (n3 : Int), b4, t, l, ts) = granarylaw01_XdrBack 100001 ((n1 : Int), x2, (n3 : Int), b4, t, l, ts) := fun _ _ => rfl
  by_cases g1 : t.length + 8 * l.length ≤ 60000
  · by_cases g2 : ts.length ≤ 60
    · obtain ⟨ns, rfl, hns⟩ : ∃ ns : List Nat, l = ns.map Int.ofNat ∧ ∀ m ∈ ns, m < 4294967296 := by
        refine ⟨l.map Int.toNat, ?_, ?_⟩
        · rw [List.map_map]
          conv => lhs; rw [← List.map_id l]
          refine List.map_congr_left fun y hy => ?_
          obtain ⟨m, rfl, _⟩ := wf_u32 (w6 y hy)
          rfl
        · intro m hm
          obtain ⟨y, hy, rfl⟩ := List.mem_map.mp hm
          obtain ⟨k, rfl, hk⟩ := wf_u32 (w6 y hy)
          exact hk
      rw [List.length_map] at g1
      rcases back_loop x2 (n3 : Int) b4 t (ns.map Int.ofNat) ts g2 ts.length 100001 0 (by omega) (by omega) with hl | ⟨hl, h7⟩
      · unfold granarylaw01_XdrBack granarylaw01_XdrBack_l0
        dsimp only
        rw [show ((0 : Nat) : Int) = 0 from rfl] at hl
        rw [List.length_map, wrapF_i64 (n := (8 : Int) * ((ns.length : Nat) : Int)) (by omega) (by omega), wrapF_i64 (by omega) (by omega), deF (p := (60000 : Int) < _) (by omega), cond_false, Option.bind_some, deF (p := (60 : Int) < _) (by omega), cond_false, hl]
        rfl
      · rw [List.drop_zero] at h7
        exact back_main h1 h2.1 h2.2 h3 hns g1 g2 h7 hl
    · unfold granarylaw01_XdrBack
      dsimp only
      rw [wrapF_i64 (n := (8 : Int) * ((l.length : Nat) : Int)) (by omega) (by omega), wrapF_i64 (by omega) (by omega), deF (p := (60000 : Int) < _) (by omega), cond_false, Option.bind_some, deT (p := (60 : Int) < _) (by omega), cond_true, xdr_live_back]
      rfl
  · unfold granarylaw01_XdrBack
    dsimp only
    rw [wrapF_i64 (n := (8 : Int) * ((l.length : Nat) : Int)) (by omega) (by omega), wrapF_i64 (by omega) (by omega), deT (p := (60000 : Int) < _) (by omega), cond_true, Option.bind_some, cond_true, xdr_live_back]
    rfl

end Go.Rf.W.Pure
