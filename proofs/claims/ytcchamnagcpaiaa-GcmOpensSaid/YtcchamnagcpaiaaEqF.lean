/- Own words: what the reference seals and opens is what the module seals and opens. Plain Lean. -/
import Derived.Test.YtcchamnagcpaiaaEqE
import Derived.Test.YtcchamnagcpaiaaEqC
import Derived.Test.YtcchamnagcpaiaaRefK
import Derived.Test.YtcchamnagcpaiaaGcmP
set_option linter.unusedVariables false
set_option linter.unusedSimpArgs false
namespace Go.GW
open Go

/-! ### elements and bytes -/
theorem tb_get8 (xs : List UInt8) : ∀ k, k ≤ xs.length → k ≤ 8 → ∀ p, p < 8 * k → (getN (xs.take k)).toNat.testBit p = (xs.getD (k - 1 - p / 8) 0).toNat.testBit (p % 8)
  | 0, _, _, p, hp => by omega
  | k + 1, h, h8, p, hp => by
    rw [getN_snoc xs k (by omega), UInt64.toNat_or, Nat.testBit_or, tb_shl64, UInt8.toNat_toUInt64]
    by_cases h0 : p < 8
    · rw [show p / 8 = 0 by omega, show p % 8 = p by omega]
      simp [show ¬ 8 ≤ p by omega]
    · rw [tb_get8 xs k (by omega) (by omega) (p - 8) (by omega), tb_u8 _ (i := p) (by omega), show (p - 8) / 8 = p / 8 - 1 by omega, show (p - 8) % 8 = p % 8 by omega, show k - 1 - (p / 8 - 1) = k + 1 - 1 - p / 8 by omega]
      simp [show p < 64 by omega, show 8 ≤ p by omega]
theorem zpad_get (xs : List UInt8) (h : xs.length ≤ 16) {q : Nat} (hq : q < 16) : (zpad xs).getD q 0 = xs.getD q 0 := by
  unfold zpad
  rw [List.take_of_length_le h]
  simp only [List.getD_eq_getElem?_getD]
  by_cases h1 : q < xs.length
  · rw [List.getElem?_append_left h1]
  · rw [List.getElem?_append_right (by omega)]
    simp [show ¬ q < xs.length by omega, show q - xs.length < 16 - xs.length by omega]
theorem tb_of (xs : List UInt8) (h : xs.length ≤ 16) {i : Nat} (hi : i < 128) : tbE (El.of xs) i = (xs.getD (i / 8) 0).toNat.testBit (7 - i % 8) := by
  have hz := zpad_len xs
  rw [← zpad_get xs h (by omega)]
  unfold tbE El.of
  by_cases h1 : i < 64
  · rw [if_pos h1, tb_get8 _ 8 (by omega) (by omega) _ (by omega), show 8 - 1 - (63 - i) / 8 = i / 8 by omega, show (63 - i) % 8 = 7 - i % 8 by omega]
  · rw [if_neg h1]
    have e : (zpad xs).drop 8 = ((zpad xs).drop 8).take 8 := (List.take_of_length_le (by rw [List.length_drop]; omega)).symm
    rw [e, tb_get8 _ 8 (by rw [List.length_drop]; omega) (by omega) _ (by omega)]
    simp only [List.getD_eq_getElem?_getD, List.getElem?_drop]
    rw [show 8 + (8 - 1 - (127 - i) / 8) = i / 8 by omega, show (127 - i) % 8 = 7 - i % 8 by omega]
theorem bit_one (x : UInt8) {k : Nat} (hk : k < 8) : (shr_u8 x k &&& 1 = 1) ↔ x.toNat.testBit k = true := by
  rw [← UInt8.toNat_inj, UInt8.toNat_and]
  show (shr_u8 x k).toNat &&& 1 = 1 ↔ _
  rw [Nat.and_one_is_mod]
  have h := tb_shr8 x k 0
  rw [Nat.testBit_zero] at h
  simp at h
  constructor
  · intro h2; rw [← h]; simpa using h2
  · intro h2; rw [← h] at h2; simpa using h2
theorem bits_of (xs : List UInt8) (h : xs.length ≤ 16) : bitsB xs = toB (El.of xs) := by
  refine lext (bitsB_len _) (toB_len _) fun i hi => ?_
  unfold bitsB
  rw [rgf_get _ _ hi, toB_get _ hi, tb_of xs h hi]
  unfold bitB
  by_cases h1 : i / 8 < xs.length
  · rw [decide_eq_true h1, Bool.true_and]
    cases hb : (xs.getD (i / 8) 0).toNat.testBit (7 - i % 8) with
    | true => exact decide_eq_true ((bit_one _ (by omega)).2 hb)
    | false => exact decide_eq_false fun h2 => by rw [(bit_one _ (by omega)).1 h2] at hb; cases hb
  · rw [decide_eq_false h1, Bool.false_and]
    simp [show xs.length ≤ i / 8 by omega]
theorem tb_shl1 {k p : Nat} (hk : k < 8) : (shl_u8 1 k).toNat.testBit p = decide (p = k) := by
  rw [tb_shl8]
  show (decide (p < 8) && (decide (k ≤ p) && Nat.testBit 1 (p - k))) = _
  by_cases h : p = k
  · subst h; simp [hk]
  · by_cases h2 : k ≤ p
    · have : Nat.testBit 1 (p - k) = false := Nat.testBit_lt_two_pow (Nat.one_lt_two_pow (by omega))
      rw [this]; simp [h]
    · simp [h, h2]
theorem tb_byt (xs : List Bool) {q p : Nat} (hq : q < 16) (hp : p < 8) : ∀ i, i ≤ 128 → ((bytK xs i).getD q 0).toNat.testBit p = (decide (8 * q + (7 - p) < i) && xs.getD (8 * q + (7 - p)) false)
  | 0, _ => by
    rw [bytK, rep_get]; simp
  | i + 1, hi => by
    have ih := tb_byt xs hq hp i (by omega)
    have hl := bytK_len xs i
    cases hx : xs.getD i false with
    | false =>
      rw [← bytK_F hx, ih]
      by_cases h : 8 * q + (7 - p) = i
      · rw [h, hx]; simp
      · congr 1; exact decide_eq_decide.2 (by omega)
    | true =>
      rw [← bytK_T hx]
      by_cases hqi : i / 8 = q
      · rw [hqi, lset_eq _ _ _ (by omega), UInt8.toNat_or, Nat.testBit_or, ih, tb_shl1 (by omega)]
        by_cases h : 8 * q + (7 - p) = i
        · rw [h, hx]; simp [show p = 7 - i % 8 by omega]
        · rw [decide_eq_false (show ¬ p = 7 - i % 8 by omega), Bool.or_false, show decide (8 * q + (7 - p) < i) = decide (8 * q + (7 - p) < i + 1) from decide_eq_decide.2 (by omega)]
      · rw [lset_ne _ _ _ hqi, ih]
        have h : ¬ 8 * q + (7 - p) = i := by omega
        congr 1; exact decide_eq_decide.2 (by omega)
theorem tb_put (n : UInt64) {q p : Nat} (hq : q < 8) (hp : p < 8) : ((putN n 8).getD q 0).toNat.testBit p = n.toNat.testBit (8 * (7 - q) + p) := by
  have h1 := putN_get 8 n q hq
  simp only [List.getD_eq_getElem?_getD, h1, Option.getD_some, UInt8.toNat_ofNat']
  rw [show 256 ^ (8 - 1 - q) = 2 ^ (8 * (7 - q)) by rw [Nat.pow_mul], ← Nat.shiftRight_eq_div_pow, Nat.mod_mod, show 256 = 2 ^ 8 from rfl, Nat.testBit_mod_two_pow, Nat.testBit_shiftRight]
  simp [hp]
theorem bytes_of (e : El) : bytesB (toB e) = e.bytes := by
  have h1 := bytesB_len (toB e)
  have h2 := El.bytes_len e
  apply List.ext_getElem (by omega)
  intro q hq1 hq2
  have hq : q < 16 := by omega
  have e1 : (bytesB (toB e))[q]'hq1 = (bytesB (toB e)).getD q 0 := by rw [List.getD_eq_getElem?_getD, List.getElem?_eq_getElem hq1]; rfl
  have e2 : (El.bytes e)[q]'hq2 = (El.bytes e).getD q 0 := by rw [List.getD_eq_getElem?_getD, List.getElem?_eq_getElem hq2]; rfl
  rw [e1, e2]
  apply u8_ext
  intro p hp
  unfold bytesB
  rw [tb_byt _ hq hp 128 (Nat.le_refl _), toB_get _ (by omega)]
  unfold El.bytes tbE
  have hl1 := putN_length 8 e.hi
  by_cases h8 : q < 8
  · have e3 : (putN e.hi 8 ++ putN e.lo 8).getD q 0 = (putN e.hi 8).getD q 0 := by
      simp only [List.getD_eq_getElem?_getD]; rw [List.getElem?_append_left (by omega)]
    rw [e3, tb_put _ h8 hp, if_pos (by omega), show 63 - (8 * q + (7 - p)) = 8 * (7 - q) + p by omega]
    simp [show 8 * q + (7 - p) < 128 by omega]
  · have e3 : (putN e.hi 8 ++ putN e.lo 8).getD q 0 = (putN e.lo 8).getD (q - 8) 0 := by
      simp only [List.getD_eq_getElem?_getD]; rw [List.getElem?_append_right (by omega), hl1]
    rw [e3, tb_put _ (by omega) hp, if_neg (by omega), show 127 - (8 * q + (7 - p)) = 8 * (7 - (q - 8)) + p by omega]
    simp [show 8 * q + (7 - p) < 128 by omega]
/-! ### the hash -/
theorem hash_eq (h y : El) (xs : List UInt8) : hashB (toB h) (toB y) xs = toB (hashF h y xs) := by
  have key : ∀ k, hsK (toB h) (toB y) xs k = toB (hashK h y xs k) := by
    intro k
    induction k with
    | zero => rfl
    | succ k ih =>
      rw [hsK, hashK, ih, bits_of _ (by unfold blkB; rw [List.length_take]; omega), xor_toB, times_toB, times_eq]
      rfl
  exact key _
theorem z128_eq : z128 = toB ⟨0, 0⟩ := by
  refine lext (List.length_replicate ..) (toB_len _) fun i hi => ?_
  rw [toB_get _ hi, tbE_zero]
  exact rep_get _ _ _
/-! ### the whole -/
theorem both_xor (a b : List UInt8) (h : a.length ≤ b.length) : bothR a b = xorF a b := xor_range a b (by omega)
theorem put4_mod (v : Nat) : putN (UInt64.ofNat v) 4 = putN (UInt32.ofNat v).toUInt64 4 := by
  apply List.ext_getElem?
  intro j
  by_cases hj : j < 4
  · rw [putN_get _ _ _ hj, putN_get _ _ _ hj]
    congr 2
    rw [UInt64.toNat_ofNat', UInt32.toNat_toUInt64, UInt32.toNat_ofNat']
    rcases (by omega : j = 0 ∨ j = 1 ∨ j = 2 ∨ j = 3) with h | h | h | h <;> subst h <;> simp only [Nat.reduceSub, Nat.reducePow] <;> omega
  · rw [List.getElem?_eq_none (by rw [putN_length]; omega), List.getElem?_eq_none (by rw [putN_length]; omega)]
section
variable {key : List UInt8} (hk : key.length = 32)
include hk
theorem ctr_eq {nonce : List UInt8} (hn : nonce.length = 12) (v : Nat) : ctrR (wsR key) nonce v = blockF (aesKeys key) (ctrF nonce (UInt32.ofNat v)) := by
  unfold ctrR ctrF
  rw [put4_mod]
  exact block_eq hk rfl (by rw [List.length_append, putN_length, hn])
theorem hk_eq : hkR key = toB (hkey (aesKeys key)) := by
  unfold hkR hkey
  rw [block_eq hk (ws := wsR key) rfl (by rfl), bits_of _ (by rw [blockF_len]; decide)]
theorem stream_eq {nonce : List UInt8} (hn : nonce.length = 12) (xs : List UInt8) : streamR (wsR key) nonce xs = streamF (aesKeys key) nonce xs := by
  rw [streamF_eq]
  refine rgf_congr fun i hi => ?_
  unfold stR sbyte
  rw [ctr_eq hk hn]
theorem tag_eq {nonce : List UInt8} (hn : nonce.length = 12) (bs sd : List UInt8) : tagR (wsR key) (hkR key) nonce bs sd = tagF (aesKeys key) nonce bs sd := by
  unfold tagR tagF
  rw [hk_eq hk, z128_eq, hash_eq, hash_eq, hash_eq, bytes_of, ctr_eq hk hn, both_xor _ _ (by rw [El.bytes_len, blockF_len]; exact Nat.le_refl _)]
  rfl
theorem seal_eq (nonce bs sd : List UInt8) : sealR (wsR key) (hkR key) nonce bs sd = sealG (aesKeys key) nonce bs sd := by
  unfold sealR sealG
  by_cases h : nonce.length = 12
  · rw [if_neg (fun h2 => h2 h), if_neg (fun h2 => h2 h), stream_eq hk h, tag_eq hk h]
    rfl
  · rw [if_pos h, if_pos h]
theorem open_eq (nonce bs sd : List UInt8) : openR (wsR key) (hkR key) nonce bs sd = openF (aesKeys key) nonce bs sd := by
  unfold openR openF
  by_cases h : nonce.length = 12
  · have hh : ¬ nonce.length ≠ 12 := fun h2 => h2 h
    rw [if_neg hh, if_neg hh, stream_eq hk h, tag_eq hk h]
  · rw [if_pos h, if_pos h]
end
end Go.GW
