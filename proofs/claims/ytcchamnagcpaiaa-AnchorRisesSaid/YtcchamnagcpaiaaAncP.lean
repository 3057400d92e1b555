/- Own words: the bytes of anchors, in plain Lean. -/
import Derived.Test.YtcchamnagcpaiaaAncA
import Derived.Test.YtcchamnagcpaiaaGwL
namespace Go.GW
open Go

def magicB : List UInt8 := [100, 101, 101, 100, 98, 111, 120, 49]
def num8 (v : Int) : List UInt8 := putN (UInt64.ofNat v.toNat) 8
def Anc.nums (a : Anc) : List Int := [a.seq, a.epoch, a.given_, a.root + 1, a.rep, a.pending]
def kekB (k : KekV) : List UInt8 := putN (UInt64.ofNat k.b.toNat) 2 ++ putN (UInt64.ofNat k.g.toNat) 2 ++ k.key
def Anc.enc (a : Anc) : List UInt8 := magicB ++ a.nums.flatMap num8 ++ a.master ++ putN (UInt64.ofNat a.keks.length) 1 ++ a.keks.flatMap kekB
def Anc.put (a : Anc) : List UInt8 := if a.check = 0 then a.enc else []

structure KekV.fine (k : KekV) : Prop where
  b0 : 0 ≤ k.b
  b1 : k.b ≤ 65535
  g0 : 0 ≤ k.g
  g1 : k.g ≤ 65535
  key : k.key.length = 32
theorem KekV.code_ok {k : KekV} (h : k.code = 0) : k.fine := by
  unfold KekV.code at h
  split at h
  · simp at h
  · split at h
    · simp at h
    · rename_i h1 h2
      have h3 : k.key.length = 32 := by omega
      exact ⟨by omega, by omega, by omega, by omega, h3⟩
theorem KekV.fine_code {k : KekV} (h : k.fine) : k.code = 0 := by
  obtain ⟨h1, h2, h3, h4, h5⟩ := h
  unfold KekV.code
  rw [if_neg (by omega), if_neg (by simp [h5])]
theorem keksCode_ok : ∀ {l : List KekV}, keksCode l = 0 → ∀ k ∈ l, k.fine
  | [], _, k, hk => by cases hk
  | a :: r, h, k, hk => by
    simp only [keksCode] at h
    split at h
    · rename_i h1
      rcases List.mem_cons.1 hk with rfl | hk
      · exact k.code_ok h1
      · exact keksCode_ok h k hk
    · contradiction
theorem keksCode_fine : ∀ {l : List KekV}, (∀ k ∈ l, k.fine) → keksCode l = 0
  | [], _ => rfl
  | a :: r, h => by
    simp only [keksCode]
    rw [if_pos (KekV.fine_code (h a (by simp))), keksCode_fine (fun k hk => h k (by simp [hk]))]

structure Anc.fine (a : Anc) : Prop where
  seq0 : 1 ≤ a.seq
  seq1 : a.seq ≤ 1099511627776
  ep0 : 0 ≤ a.epoch
  ep1 : a.epoch ≤ 1099511627776
  gi0 : 0 ≤ a.given_
  gi1 : a.given_ ≤ 1099511627776
  rep0 : 0 ≤ a.rep
  rep1 : a.rep ≤ 1099511627776
  eg : a.epoch ≤ a.given_
  ro0 : -1 ≤ a.root
  ro1 : a.root < 4096
  pe0 : 0 ≤ a.pending
  pe1 : a.pending < 4096
  ma : a.master.length = 32
  kl : a.keks.length ≤ 16
  ks : ∀ k ∈ a.keks, k.fine
theorem Anc.check_ok {a : Anc} (h : a.check = 0) : a.fine := by
  unfold Anc.check small at h
  split at h
  · simp at h
  · split at h
    · simp at h
    · split at h
      · simp at h
      · rename_i h1 h2 h3
        have h4 : a.master.length = 32 := by omega
        exact ⟨by omega, by omega, by omega, by omega, by omega, by omega, by omega, by omega, by omega, by omega, by omega, by omega, by omega, h4, by omega, keksCode_ok h⟩
theorem Anc.fine_check {a : Anc} (h : a.fine) : a.check = 0 := by
  obtain ⟨_, _, _, _, _, _, _, _, _, _, _, _, _, _, _, hk⟩ := h
  unfold Anc.check small
  rw [if_neg (by omega), if_neg (by omega), if_neg (by omega), keksCode_fine hk]

theorem num8_len (v : Int) : (num8 v).length = 8 := putN_length _ _
theorem kekB_len {k : KekV} (h : k.fine) : (kekB k).length = 36 := by simp [kekB, putN_length, h.key]
theorem keks_len : ∀ {l : List KekV}, (∀ k ∈ l, k.fine) → (l.flatMap kekB).length = 36 * l.length
  | [], _ => rfl
  | a :: r, h => by
    rw [List.flatMap_cons, List.length_append, kekB_len (h a (by simp)), keks_len (fun k hk => h k (by simp [hk])), List.length_cons]
    omega
theorem nums_len : ∀ (l : List Int), (l.flatMap num8).length = 8 * l.length
  | [] => rfl
  | a :: r => by rw [List.flatMap_cons, List.length_append, num8_len, nums_len r, List.length_cons]; omega
theorem Anc.enc_len {a : Anc} (h : a.fine) : a.enc.length = 89 + 36 * a.keks.length := by
  unfold Anc.enc
  simp only [List.length_append, nums_len, h.ma, putN_length, keks_len h.ks]
  simp [magicB, Anc.nums]
theorem Anc.put_len (a : Anc) : a.put.length ≤ 665 := by
  unfold Anc.put
  split
  · rename_i h
    have := Anc.check_ok h
    rw [a.enc_len this]
    have := this.kl
    omega
  · simp

/-! ### reading -/
def numD (r : Rd) : Int × Rd := (min ((getN (r.take 8).1).toNat : Int) 4611686018427387904, (r.take 8).2)
def numsD : Nat → Rd → List Int × Rd
  | 0, r => ([], r)
  | k + 1, r => ((numsD k r).1 ++ [(numD (numsD k r).2).1], (numD (numsD k r).2).2)
def kekD (r : Rd) : KekV × Rd := (⟨((getN (r.take 2).1).toNat : Int), ((getN ((r.take 2).2.take 2).1).toNat : Int), (((r.take 2).2.take 2).2.take 32).1⟩, (((r.take 2).2.take 2).2.take 32).2)
def keksD : Nat → Rd → List KekV × Rd
  | 0, r => ([], r)
  | k + 1, r => ((keksD k r).1 ++ [(kekD (keksD k r).2).1], (kekD (keksD k r).2).2)
def zeroAnc : Anc := ⟨0, 0, 0, 0, 0, 0, [], []⟩
def decN (b : List UInt8) : List Int × Rd := numsD 6 ((Rd.mk b 0).take 8).2
def decM (b : List UInt8) : List UInt8 × Rd := (decN b).2.take 32
def decC (b : List UInt8) : List UInt8 × Rd := (decM b).2.take 1
def decK (b : List UInt8) : List KekV × Rd := keksD (getN (decC b).1).toNat (decC b).2
def decA (b : List UInt8) : Anc := ⟨(decN b).1.getD 0 0, (decN b).1.getD 1 0, (decN b).1.getD 2 0, (decN b).1.getD 3 0 - 1, (decN b).1.getD 4 0, (decN b).1.getD 5 0, (decM b).1, (decK b).1⟩
def Anc.dec (b : List UInt8) : Anc × Int :=
  if ((Rd.mk b 0).take 8).1 ≠ magicB then (zeroAnc, 9)
  else if (decK b).2.code ≠ 0 then (zeroAnc, (decK b).2.code)
  else if (decA b).check ≠ 0 then (zeroAnc, (decA b).check) else (decA b, 0)

theorem numD_le (r : Rd) : 0 ≤ (numD r).1 ∧ (numD r).1 ≤ 4611686018427387904 := by
  unfold numD
  exact ⟨by omega, by omega⟩
theorem numsD_len (r : Rd) : ∀ k, (numsD k r).1.length = k
  | 0 => rfl
  | k + 1 => by simp [numsD, numsD_len r k]
theorem numsD_le (r : Rd) : ∀ k, ∀ x ∈ (numsD k r).1, 0 ≤ x ∧ x ≤ 4611686018427387904
  | 0, x, hx => by cases hx
  | k + 1, x, hx => by
    simp only [numsD, List.mem_append, List.mem_singleton] at hx
    rcases hx with hx | rfl
    · exact numsD_le r k x hx
    · exact numD_le _
theorem keksD_len (r : Rd) : ∀ k, (keksD k r).1.length = k
  | 0 => rfl
  | k + 1 => by simp [keksD, keksD_len r k]
theorem getN_pre (xs : List UInt8) : ∀ (k : Nat), k ≤ xs.length → k ≤ 7 → (getN (xs.take k)).toNat < 256 ^ k
  | 0, _, _ => by simp [getN]
  | k + 1, hk, h7 => by
    have h1 := getN_pre xs k (by omega) (by omega)
    rw [getN_snoc xs k (by omega), ← or8, UInt64.toNat_add, UInt64.toNat_mul, UInt8.toNat_toUInt64]
    have h3 := (xs.getD k 0).toNat_lt
    have h4 : (256 : UInt64).toNat = 256 := rfl
    rw [h4]
    have h5 : (256 : Nat) ^ k ≤ 256 ^ 6 := Nat.pow_le_pow_right (by decide) (by omega)
    have h6 : (256 : Nat) ^ 6 = 281474976710656 := by decide
    rw [Nat.pow_succ]
    omega
theorem getN_small (xs : List UInt8) (s : Nat) (hs : xs.length ≤ s) (h7 : s ≤ 7) : (getN xs).toNat < 256 ^ s := by
  have := getN_pre xs xs.length (Nat.le_refl _) (by omega)
  rw [List.take_of_length_le (Nat.le_refl _)] at this
  exact Nat.lt_of_lt_of_le this (Nat.pow_le_pow_right (by decide) hs)
theorem take_len (r : Rd) (m : Nat) : (r.take (m : Int)).1.length ≤ m := by
  unfold Rd.take
  split
  · simp
  · split
    · simp
    · simp; omega
theorem take_small (r : Rd) (m : Nat) (h : m ≤ 7) : (getN (r.take (m : Int)).1).toNat < 256 ^ m := getN_small _ m (take_len r m) h

/-! ### there and back -/
theorem take_app (xs ys : List UInt8) {m : Int} (h : m = (xs.length : Int)) : (Rd.mk (xs ++ ys) 0).take m = (xs, ⟨ys, 0⟩) := by
  subst h
  unfold Rd.take
  simp
  omega
theorem getN_putN : ∀ (s : Nat) (n : UInt64), s ≤ 8 → n.toNat < 256 ^ s → getN (putN n s) = n
  | 0, n, _, h => by
    have : n.toNat = 0 := by simpa using h
    apply UInt64.toNat_inj.1
    rw [this]
    rfl
  | s + 1, n, hs, h => by
    have h1 : (n / 256).toNat = n.toNat / 256 := by rw [UInt64.toNat_div]; rfl
    have h2 : (n % 256).toNat = n.toNat % 256 := by rw [UInt64.toNat_mod]; rfl
    have ih := getN_putN s (n / 256) (by omega) (by rw [h1]; rw [Nat.pow_succ] at h; omega)
    have h3 : getN (putN n (s + 1)) = getN (putN (n / 256) s) * 256 + ((n % 256).toUInt8).toUInt64 := by rw [or8]; simp [getN, putN]
    rw [h3, ih]
    apply UInt64.toNat_inj.1
    rw [UInt64.toNat_add, UInt64.toNat_mul, UInt8.toNat_toUInt64, UInt64.toNat_toUInt8, h1, h2]
    have h4 : (256 : UInt64).toNat = 256 := rfl
    have h5 := n.toNat_lt
    rw [h4]
    omega
theorem ofNat_small {v : Int} {s : Nat} (h0 : 0 ≤ v) (h : v < (256 ^ s : Nat)) (h2 : v ≤ 9223372036854775807) : (UInt64.ofNat v.toNat).toNat = v.toNat ∧ (UInt64.ofNat v.toNat).toNat < 256 ^ s := by
  have : (UInt64.ofNat v.toNat).toNat = v.toNat := by
    rw [UInt64.toNat_ofNat']
    omega
  exact ⟨this, by rw [this]; omega⟩
theorem num8_back {v : Int} (ys : List UInt8) (h0 : 0 ≤ v) (h1 : v ≤ 1099511627776) : numD ⟨num8 v ++ ys, 0⟩ = (v, ⟨ys, 0⟩) := by
  unfold numD
  rw [take_app _ _ (by rw [num8_len]; rfl)]
  obtain ⟨h2, h3⟩ := ofNat_small (s := 8) h0 (by have : (256 ^ 8 : Nat) = 18446744073709551616 := by decide
                                                 omega) (by omega)
  simp only [num8]
  rw [getN_putN 8 _ (by decide) h3, h2]
  congr 1
  omega
theorem kekB_back {k : KekV} (h : k.fine) (ys : List UInt8) : kekD ⟨kekB k ++ ys, 0⟩ = (k, ⟨ys, 0⟩) := by
  obtain ⟨b, g, key⟩ := k
  obtain ⟨h1, h2, h3, h4, h5⟩ := h
  simp only at h1 h2 h3 h4 h5
  have e2 : (256 ^ 2 : Nat) = 65536 := by decide
  obtain ⟨p1, p2⟩ := ofNat_small (v := b) (s := 2) h1 (by rw [e2]; omega) (by omega)
  obtain ⟨p3, p4⟩ := ofNat_small (v := g) (s := 2) h3 (by rw [e2]; omega) (by omega)
  unfold kekD kekB
  simp only [List.append_assoc]
  rw [take_app _ _ (by rw [putN_length]; rfl)]
  simp only
  rw [take_app _ _ (by rw [putN_length]; rfl)]
  simp only
  rw [take_app _ _ (by rw [h5]; rfl)]
  simp only
  rw [getN_putN 2 _ (by decide) p2, getN_putN 2 _ (by decide) p4, p1, p3]
  simp only [Prod.mk.injEq, KekV.mk.injEq, and_true]
  exact ⟨by omega, by omega⟩
theorem nums_back (ys : List UInt8) : ∀ (l : List Int), (∀ v ∈ l, 0 ≤ v ∧ v ≤ 1099511627776) → ∀ k, k ≤ l.length → numsD k ⟨l.flatMap num8 ++ ys, 0⟩ = (l.take k, ⟨(l.drop k).flatMap num8 ++ ys, 0⟩)
  | l, h, 0, _ => by simp [numsD]
  | l, h, k + 1, hk => by
    have ih := nums_back ys l h k (by omega)
    have hd : l.drop k = l[k] :: l.drop (k + 1) := List.drop_eq_getElem_cons (by omega)
    have hm := h l[k] (List.getElem_mem (by omega))
    simp only [numsD, ih]
    rw [hd, List.flatMap_cons, List.append_assoc, num8_back _ hm.1 hm.2, List.take_succ_eq_append_getElem (by omega)]
theorem keks_back (ys : List UInt8) : ∀ (l : List KekV), (∀ v ∈ l, v.fine) → ∀ k, k ≤ l.length → keksD k ⟨l.flatMap kekB ++ ys, 0⟩ = (l.take k, ⟨(l.drop k).flatMap kekB ++ ys, 0⟩)
  | l, h, 0, _ => by simp [keksD]
  | l, h, k + 1, hk => by
    have ih := keks_back ys l h k (by omega)
    have hd : l.drop k = l[k] :: l.drop (k + 1) := List.drop_eq_getElem_cons (by omega)
    have hm := h l[k] (List.getElem_mem (by omega))
    simp only [keksD, ih]
    rw [hd, List.flatMap_cons, List.append_assoc, kekB_back hm, List.take_succ_eq_append_getElem (by omega)]
theorem Anc.back {a : Anc} (h : a.check = 0) (ys : List UInt8) : Anc.dec (a.enc ++ ys) = (a, 0) := by
  have hf := Anc.check_ok h
  have e0 : (Rd.mk (a.enc ++ ys) 0).take 8 = (magicB, ⟨a.nums.flatMap num8 ++ (a.master ++ (putN (UInt64.ofNat a.keks.length) 1 ++ (a.keks.flatMap kekB ++ ys))), 0⟩) := by
    have : a.enc ++ ys = magicB ++ (a.nums.flatMap num8 ++ (a.master ++ (putN (UInt64.ofNat a.keks.length) 1 ++ (a.keks.flatMap kekB ++ ys)))) := by simp [Anc.enc]
    rw [this]
    exact take_app _ _ rfl
  have hn : ∀ v ∈ a.nums, 0 ≤ v ∧ v ≤ 1099511627776 := by
    obtain ⟨_, _, _, _, _, _, _, _, _, _, _, _, _, _, _, _⟩ := hf
    intro v hv
    simp only [Anc.nums, List.mem_cons, List.not_mem_nil, or_false] at hv
    rcases hv with rfl | rfl | rfl | rfl | rfl | rfl <;> exact ⟨by omega, by omega⟩
  have e1 : decN (a.enc ++ ys) = (a.nums, ⟨a.master ++ (putN (UInt64.ofNat a.keks.length) 1 ++ (a.keks.flatMap kekB ++ ys)), 0⟩) := by
    unfold decN
    rw [e0]
    have := nums_back (a.master ++ (putN (UInt64.ofNat a.keks.length) 1 ++ (a.keks.flatMap kekB ++ ys))) a.nums hn 6 (Nat.le_refl 6)
    exact this
  have e2 : decM (a.enc ++ ys) = (a.master, ⟨putN (UInt64.ofNat a.keks.length) 1 ++ (a.keks.flatMap kekB ++ ys), 0⟩) := by
    unfold decM
    rw [e1]
    exact take_app _ _ (by rw [hf.ma]; rfl)
  have hk := hf.kl
  have hc : (UInt64.ofNat a.keks.length).toNat = a.keks.length := by rw [UInt64.toNat_ofNat']; omega
  have e3 : decC (a.enc ++ ys) = (putN (UInt64.ofNat a.keks.length) 1, ⟨a.keks.flatMap kekB ++ ys, 0⟩) := by
    unfold decC
    rw [e2]
    exact take_app _ _ (by rw [putN_length]; rfl)
  have e4 : decK (a.enc ++ ys) = (a.keks, ⟨ys, 0⟩) := by
    unfold decK
    rw [e3]
    simp only
    rw [getN_putN 1 _ (by decide) (by rw [hc]; omega), hc, keks_back ys a.keks hf.ks a.keks.length (Nat.le_refl _)]
    simp
  have e5 : decA (a.enc ++ ys) = a := by
    unfold decA
    rw [e1, e2, e4]
    have : a.root + 1 - 1 = a.root := by omega
    simp [Anc.nums, this]
  unfold Anc.dec
  rw [e0, e4, e5, h]
  simp

end Go.GW
