/-
  Inodes: bytes, and back.
-/
import Derived.Test.YtcehhkdpdehjhaaPlInoHandle
set_option linter.unusedVariables false
set_option maxRecDepth 10000
namespace Go.Rf.W
open Go Go.Rf

def nats (l : List Nat) : List Int := l.map Int.ofNat

theorem put_loop4 {N : Nat} (hN : 8 < N) (ws : List Nat) (hw : ws.length ≤ 8) : ∀ (d f i : Nat) (b : List Int), i + d = ws.length → d < f → b.length ≤ 5000 + 8 * i →
    loopF (inode_Put_b0 N) f (0, ws.length, ((ws.length : Nat) : Int), (i : Int), b, nats ws) = some (nats ws, b ++ (ws.drop i).flatMap (be 4)) := by
  intro d
  induction d with
  | zero =>
    intro f i b hi hf hb
    obtain ⟨f, rfl⟩ : ∃ g, f = g + 1 := ⟨f - 1, by omega⟩
    show inode_Put_b0 N _ _ = _
    unfold inode_Put_b0
    dsimp only
    rw [deF (by omega), cond_false, List.drop_of_length_le (by omega)]
    simp
  | succ d ih =>
    intro f i b hi hf hb
    obtain ⟨f, rfl⟩ : ∃ g, f = g + 1 := ⟨f - 1, by omega⟩
    have hlt : i < ws.length := by omega
    have hn : (nats ws).length = ws.length := by simp [nats]
    have hg : List.getD (nats ws) i (EK.dflt (.int .u64)) = (ws[i] : Int) := by simp [List.getD, nats, hlt]
    show inode_Put_b0 N (loopF (inode_Put_b0 N) f) _ = _
    generalize hnx : loopF (inode_Put_b0 N) f = nx
    unfold inode_Put_b0
    dsimp only
    rw [deT (p := (i : Int) < ((ws.length : Nat) : Int)) (by omega), deT (p := (0 : Int) ≤ (i : Int)) (by omega), cond_true, Bool.and_self, cond_true, Int.toNat_natCast, Nat.add_zero, hn, deT hlt, cond_true, hg]
    have hp := put1_ok (N := N) (n := ws[i]) (size := 4) (b := b) (by omega) (by omega)
    have hp' : octet_Put_v1 N ((ws[i] : Int), (4 : Int), b) = _ := hp
    rw [hp', Option.bind_some, wrapF_i64 (by omega) (by omega), ← hnx]
    have e1 : ((i : Int) + 1) = ((i + 1 : Nat) : Int) := by omega
    rw [e1, ih f (i + 1) _ (by omega) (by omega) (by simp; omega), List.drop_eq_getElem_cons hlt, List.flatMap_cons, List.append_assoc]

theorem put_loop8 {N : Nat} (hN : 8 < N) (ws : List Nat) (hw : ws.length ≤ 8) : ∀ (d f i : Nat) (b : List Int), i + d = ws.length → d < f → b.length ≤ 5000 + 8 * i →
    loopF (inode_Put_b2 N) f (0, ws.length, ((ws.length : Nat) : Int), (i : Int), b, nats ws) = some (nats ws, b ++ (ws.drop i).flatMap (be 8)) := by
  intro d
  induction d with
  | zero =>
    intro f i b hi hf hb
    obtain ⟨f, rfl⟩ : ∃ g, f = g + 1 := ⟨f - 1, by omega⟩
    show inode_Put_b2 N _ _ = _
    unfold inode_Put_b2
    dsimp only
    rw [deF (by omega), cond_false, List.drop_of_length_le (by omega)]
    simp
  | succ d ih =>
    intro f i b hi hf hb
    obtain ⟨f, rfl⟩ : ∃ g, f = g + 1 := ⟨f - 1, by omega⟩
    have hlt : i < ws.length := by omega
    have hn : (nats ws).length = ws.length := by simp [nats]
    have hg : List.getD (nats ws) i (EK.dflt (.int .u64)) = (ws[i] : Int) := by simp [List.getD, nats, hlt]
    show inode_Put_b2 N (loopF (inode_Put_b2 N) f) _ = _
    generalize hnx : loopF (inode_Put_b2 N) f = nx
    unfold inode_Put_b2
    dsimp only
    rw [deT (p := (i : Int) < ((ws.length : Nat) : Int)) (by omega), deT (p := (0 : Int) ≤ (i : Int)) (by omega), cond_true, Bool.and_self, cond_true, Int.toNat_natCast, Nat.add_zero, hn, deT hlt, cond_true, hg]
    have hp := put1_ok (N := N) (n := ws[i]) (size := 8) (b := b) (by omega) (by omega)
    have hp' : octet_Put_v1 N ((ws[i] : Int), (8 : Int), b) = _ := hp
    rw [hp', Option.bind_some, wrapF_i64 (by omega) (by omega), ← hnx]
    have e1 : ((i : Int) + 1) = ((i + 1 : Nat) : Int) := by omega
    rw [e1, ih f (i + 1) _ (by omega) (by omega) (by simp; omega), List.drop_eq_getElem_cons hlt, List.flatMap_cons, List.append_assoc]

/-- How many zeros are missing to a multiple of four. -/
def pad (n : Nat) : Nat := (4 - n % 4) % 4

theorem and3 {n : Nat} (h : n < 1000000) : andF .i64 (wrapF .i64 ((0 : Int) - (n : Int))) 3 = ((pad n : Nat) : Int) := by
  have h1 : wrapF .i64 ((0 : Int) - (n : Int)) = -(n : Int) := by rw [wrapF_i64 (by omega) (by omega)]; omega
  rw [h1, andF_def]
  have h2 : toU .i64 3 = 3 := rfl
  have h3 : toU .i64 (-(n : Int)) % 4 = pad n := by simp only [toU, pad]; omega
  simp only [andG]
  have h4 : Nat.land (toU .i64 (-(n : Int))) (toU .i64 3) = pad n := by
    rw [h2]
    have : toU .i64 (-(n : Int)) &&& 3 = toU .i64 (-(n : Int)) % 4 := Nat.and_two_pow_sub_one_eq_mod _ 2
    exact this.trans h3
  rw [h4]
  have : pad n < 4 := by unfold pad; omega
  have := wrapF_nat .i64 (n := pad n) (by rw [two_pow_topA]; show pad n < 9223372036854775808; omega)
  exact this

def strB (s : List UInt8) : List Int := List.map (fun b => (b.toNat : Int)) s

theorem strB_bytes (s : List UInt8) : ∀ x ∈ strB s, 0 ≤ x ∧ x < 256 := fun x hx => by
  obtain ⟨b, _, rfl⟩ := List.mem_map.1 hx
  have := b.toNat_lt
  omega

/-- An inode's bytes. -/
def IB (num gen kind mode links uid gid size blocks atime mtime ctime root : Nat) (t : List UInt8) : List Int :=
  be 8 num ++ [gen, kind, mode, links, uid, gid].flatMap (be 4) ++ [size, blocks, atime, mtime, ctime, root].flatMap (be 8) ++ be 4 t.length ++ strB t ++ List.replicate (pad t.length) 0

theorem w64 {n : Nat} (h : n < 18446744073709551616) : wrapF .u64 (n : Int) = (n : Int) := wrapF_u64 (by omega) (by omega)

theorem be4_cut (k : Int) : be 4 (k % 18446744073709551616).toNat = be 4 (k % 4294967296).toNat := by
  rw [← be_mod 4 (k % 18446744073709551616).toNat]
  congr 1
  rw [show (256 : Nat) ^ 4 = 4294967296 from by decide]
  omega

theorem putI_ok {N num gen mode links uid gid size blocks atime mtime ctime root : Nat} {k e : Int} {t : List UInt8} (hN : 20 < N) (h2 : gen < 4294967296) (h4 : mode < 4294967296) (h5 : links < 4294967296) (h6 : uid < 4294967296) (h7 : gid < 4294967296)
    (ht : t.length ≤ 2000) (he : inode_Check ((num : Int), (gen : Int), k, (mode : Int), (links : Int), (uid : Int), (gid : Int), (size : Int), (blocks : Int), (atime : Int), (mtime : Int), (ctime : Int), (root : Int), t) = some e) :
    inode_Put N ((num : Int), (gen : Int), k, (mode : Int), (links : Int), (uid : Int), (gid : Int), (size : Int), (blocks : Int), (atime : Int), (mtime : Int), (ctime : Int), (root : Int), t) =
      some (cond (!(decide (e = 0))) (e, []) (0, IB num gen (k % 4294967296).toNat mode links uid gid size blocks atime mtime ctime root t)) := by
  unfold inode_Put inode_words inode_longs
  dsimp only
  rw [he, Option.bind_some]
  cases decide (e = 0) with
  | false => rfl
  | true =>
    rw [Bool.not_true, cond_false, cond_false]
    have p0 := put0_ok (N := N) (n := num) (size := 8) (by omega) (by omega)
    have p0' : octet_Put N ((num : Int), (8 : Int)) = _ := p0
    have hk : wrapF .u64 k = ((k % 18446744073709551616).toNat : Int) := by simp only [wrapF]; omega
    rw [p0', Option.bind_some, Option.bind_some, hk, w64 (by omega), w64 (by omega), w64 (by omega), w64 (by omega), w64 (by omega)]
    have l1 := put_loop4 (N := N) (by omega) [gen, (k % 18446744073709551616).toNat, mode, links, uid, gid] (by simp) 6 N 0 (be 8 num) rfl (by omega) (by simp)
    have l1' : loopF (inode_Put_b0 N) N (0, 6, ((6 : Nat) : Int), (0 : Int), be 8 num, ([(gen : Int), ((k % 18446744073709551616).toNat : Int), (mode : Int), (links : Int), (uid : Int), (gid : Int)] : List Int)) = _ := l1
    have l2 := put_loop8 (N := N) (by omega) [size, blocks, atime, mtime, ctime, root] (by simp) 6 N 0 (be 8 num ++ [gen, (k % 18446744073709551616).toNat, mode, links, uid, gid].flatMap (be 4)) rfl (by omega) (by simp)
    have l2' : loopF (inode_Put_b2 N) N (0, 6, ((6 : Nat) : Int), (0 : Int), be 8 num ++ [gen, (k % 18446744073709551616).toNat, mode, links, uid, gid].flatMap (be 4), ([(size : Int), (blocks : Int), (atime : Int), (mtime : Int), (ctime : Int), (root : Int)] : List Int)) = _ := l2
    unfold inode_Put_l0 inode_Put_l2
    rw [l1', Option.bind_some]
    dsimp only
    rw [Option.bind_some, List.drop_zero, l2', Option.bind_some]
    dsimp only
    rw [List.drop_zero, w64 (by omega)]
    have hlen : (be 8 num ++ [gen, (k % 18446744073709551616).toNat, mode, links, uid, gid].flatMap (be 4) ++ [size, blocks, atime, mtime, ctime, root].flatMap (be 8)).length = 80 := by simp
    have p1 := put1_ok (N := N) (n := t.length) (size := 4) (b := be 8 num ++ [gen, (k % 18446744073709551616).toNat, mode, links, uid, gid].flatMap (be 4) ++ [size, blocks, atime, mtime, ctime, root].flatMap (be 8)) (by omega) (by omega)
    have p1' : octet_Put_v1 N ((t.length : Int), (4 : Int), be 8 num ++ [gen, (k % 18446744073709551616).toNat, mode, links, uid, gid].flatMap (be 4) ++ [size, blocks, atime, mtime, ctime, root].flatMap (be 8)) = _ := p1
    rw [p1', Option.bind_some, and3 (by omega)]
    have hpad : pad t.length < 4 := by unfold pad; omega
    have hs : (strB t).length = t.length := by simp [strB]
    rw [show List.map (fun b => (b.toNat : Int)) t = strB t from rfl]
    have hlen2 : (be 8 num ++ [gen, (k % 18446744073709551616).toNat, mode, links, uid, gid].flatMap (be 4) ++ [size, blocks, atime, mtime, ctime, root].flatMap (be 8) ++ be 4 t.length).length = 84 := by rw [List.length_append, hlen, be_length]
    rw [Int.toNat_natCast, hlen2, hs, fits1 (by omega), fits1 (by omega), List.length_append, hlen2, hs, List.length_replicate, fits1 (by omega), deT (p := (0 : Int) ≤ ((pad t.length : Nat) : Int)) (by omega)]
    simp only [Bool.and_self, cond_true]
    unfold IB
    simp only [List.flatMap_cons, List.flatMap_nil]
    rw [be4_cut]
    rfl

theorem pad_loop {N : Nat} : ∀ (d f : Nat) (b : List Int), pad b.length = d → b.length + d < 10000 → d < f → loopF (granaryref12_Put_b0 N) f b = some (b ++ List.replicate d 0) := by
  intro d
  induction d with
  | zero =>
    intro f b hd hb hf
    obtain ⟨f, rfl⟩ : ∃ g, f = g + 1 := ⟨f - 1, by omega⟩
    have h0 : Int.tmod ((b.length : Nat) : Int) 4 = 0 := by
      have : b.length % 4 = 0 := by unfold pad at hd; omega
      show ((b.length % 4 : Nat) : Int) = 0
      omega
    show granaryref12_Put_b0 N _ _ = _
    unfold granaryref12_Put_b0
    rw [deT h0, Bool.not_true, cond_false]
    simp
  | succ d ih =>
    intro f b hd hb hf
    obtain ⟨f, rfl⟩ : ∃ g, f = g + 1 := ⟨f - 1, by omega⟩
    have h0 : ¬ Int.tmod ((b.length : Nat) : Int) 4 = 0 := by
      have : ¬ b.length % 4 = 0 := by unfold pad at hd; omega
      show ¬ ((b.length % 4 : Nat) : Int) = 0
      omega
    show granaryref12_Put_b0 N (loopF (granaryref12_Put_b0 N) f) _ = _
    generalize hnx : loopF (granaryref12_Put_b0 N) f = nx
    unfold granaryref12_Put_b0
    dsimp only
    rw [deF h0, Bool.not_false, cond_true]
    have e : List.take 1 (List.drop 0 ([(0 : Int)] : List Int)) = [0] := rfl
    rw [e, show ([(0 : Int)] : List Int).length = 1 from rfl, fits1 (by omega), deT (Nat.le_refl 1)]
    simp only [Bool.and_self, cond_true]
    rw [← hnx, ih f (b ++ [0]) (by simp; unfold pad at hd ⊢; omega) (by simp; omega) (by omega), List.replicate_succ, List.append_assoc]
    rfl

theorem refPutI_ok {N num gen mode links uid gid size blocks atime mtime ctime root : Nat} {k e : Int} {t : List UInt8} (hN : 20 < N)
    (ht : t.length ≤ 2000) (he : granaryref12_Check ((num : Int), (gen : Int), k, (mode : Int), (links : Int), (uid : Int), (gid : Int), (size : Int), (blocks : Int), (atime : Int), (mtime : Int), (ctime : Int), (root : Int), t) = some e) :
    granaryref12_Put N ((num : Int), (gen : Int), k, (mode : Int), (links : Int), (uid : Int), (gid : Int), (size : Int), (blocks : Int), (atime : Int), (mtime : Int), (ctime : Int), (root : Int), t) =
      some (cond (!(decide (e = 0))) (e, []) (0, IB num gen (k % 4294967296).toNat mode links uid gid size blocks atime mtime ctime root t)) := by
  unfold granaryref12_Put granaryref12_Put_l0
  dsimp only
  rw [he, Option.bind_some]
  cases decide (e = 0) with
  | false => rfl
  | true =>
    have hk : wrapF .u32 k = ((k % 4294967296).toNat : Int) := by simp only [wrapF]; omega
    have hs : (strB t).length = t.length := by simp [strB]
    have hpad : pad t.length < 4 := by unfold pad; omega
    rw [Bool.not_true, cond_false, cond_false, hk, eight0_ok, Option.bind_some, four1_ok (by simp), Option.bind_some, four1_ok (by simp), Option.bind_some, four1_ok (by simp), Option.bind_some, four1_ok (by simp), Option.bind_some, four1_ok (by simp), Option.bind_some, four1_ok (by simp), Option.bind_some,
      eight1_ok (by simp), Option.bind_some, eight1_ok (by simp), Option.bind_some, eight1_ok (by simp), Option.bind_some, eight1_ok (by simp), Option.bind_some, eight1_ok (by simp), Option.bind_some, eight1_ok (by simp), Option.bind_some, w32 (by omega), four1_ok (by simp), Option.bind_some]
    rw [show List.map (fun b => (b.toNat : Int)) t = strB t from rfl]
    have hlen : (be 8 num ++ be 4 gen ++ be 4 (k % 4294967296).toNat ++ be 4 mode ++ be 4 links ++ be 4 uid ++ be 4 gid ++ be 8 size ++ be 8 blocks ++ be 8 atime ++ be 8 mtime ++ be 8 ctime ++ be 8 root ++ be 4 t.length).length = 84 := by simp
    generalize hg : be 8 num ++ be 4 gen ++ be 4 (k % 4294967296).toNat ++ be 4 mode ++ be 4 links ++ be 4 uid ++ be 4 gid ++ be 8 size ++ be 8 blocks ++ be 8 atime ++ be 8 mtime ++ be 8 ctime ++ be 8 root ++ be 4 t.length = hd at hlen ⊢
    rw [hlen, hs, fits1 (by omega), cond_true]
    rw [pad_loop (pad t.length) N (hd ++ strB t) (by simp [hlen, hs, pad]; omega) (by simp [hlen, hs]; omega) (by omega), Option.bind_some, ← hg]
    unfold IB
    simp [List.append_assoc]

end Go.Rf.W
