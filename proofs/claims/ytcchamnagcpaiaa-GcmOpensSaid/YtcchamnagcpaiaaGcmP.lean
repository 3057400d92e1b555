/- Own words: what law 06 says of what is sealed and opened, in plain Lean; its own example, computed. -/
import Derived.Test.YtcchamnagcpaiaaGcmW
set_option linter.unusedVariables false
set_option linter.unusedSimpArgs false
namespace Go.GW
open Go

def wSealed : List UInt8 := [0xce,0xa7,0x40,0x3d,0x4d,0x60,0x6b,0x6e,0x07,0x4e,0xc5,0xd3,0xba,0xf3,0x9d,0x18, 0xd0,0xd1,0xc8,0xa7,0x99,0x99,0x6b,0xf0,0x26,0x5b,0x98,0xb5,0xd4,0x8a,0xb9,0x19]
theorem xor_at (a b : List UInt8) {i : Nat} (h : i < (xorF a b).length) : (xorF a b)[i] = a.getD i 0 ^^^ b.getD i 0 := by
  rw [xorF_len] at h
  simp [xorF, show i < a.length by omega, show i < b.length by omega]
/-- a text's i-th byte, sealed -/
def sbyte (ks nonce b : List UInt8) (i : Nat) : UInt8 := b.getD i 0 ^^^ (blockF ks (ctrF nonce (UInt32.ofNat (2 + i / 16)))).getD (i % 16) 0
theorem streamK_eq (ks nonce b : List UInt8) (j : Nat) : streamK ks nonce b j = (List.range (min (16 * j) b.length)).map (sbyte ks nonce b) := by
  induction j with
  | zero => simp [streamK]
  | succ j ih =>
    apply List.ext_getElem
    · rw [streamK_len]; simp
    · intro i h1 h2
      rw [streamK_len] at h1
      simp only [streamK, List.getElem_map, List.getElem_range]
      by_cases hi : i < min (16 * j) b.length
      · rw [List.getElem_append_left (by rw [streamK_len]; exact hi)]
        simp only [ih, List.getElem_map, List.getElem_range]
      · rw [List.getElem_append_right (by rw [streamK_len]; omega)]
        simp only [streamK_len]
        have e1 : min (16 * j) b.length = 16 * j := by omega
        rw [xor_at]
        simp only [e1]
        have e2 : i / 16 = j := by omega
        have e3 : i % 16 = i - 16 * j := by omega
        unfold sbyte
        rw [e2, e3]
        congr 1
        have h3 : i - 16 * j < 16 := by omega
        simp only [List.getD_eq_getElem?_getD, List.getElem?_take, List.getElem?_drop, h3, if_true]
        rw [show 16 * j + (i - 16 * j) = i by omega]
theorem streamF_eq (ks nonce b : List UInt8) : streamF ks nonce b = (List.range b.length).map (sbyte ks nonce b) := by
  unfold streamF
  rw [streamK_eq]
  congr 2
  omega
theorem stream_back (ks nonce b : List UInt8) : streamF ks nonce (streamF ks nonce b) = b := by
  rw [streamF_eq ks nonce (streamF ks nonce b), streamF_len]
  apply List.ext_getElem
  · simp
  · intro i h1 h2
    simp only [List.getElem_map, List.getElem_range]
    unfold sbyte
    rw [streamF_eq]
    simp only [List.getD_eq_getElem?_getD, List.getElem?_map, List.getElem?_range h2]
    simp only [Option.map_some, Option.getD_some]
    unfold sbyte
    rw [UInt8.xor_assoc]
    simp [h2]
theorem open_seal {ks nonce bs t : List UInt8} (h : nonce.length = 12) : openF ks nonce bs (sealF ks nonce bs t) = (t, 0) := by
  have hl := sealF_len ks nonce bs t
  have hs := streamF_len ks nonce t
  have e1 : (sealF ks nonce bs t).take ((sealF ks nonce bs t).length - 16) = streamF ks nonce t := by
    rw [hl, show t.length + 16 - 16 = t.length by omega]
    unfold sealF
    rw [List.take_append_of_le_length (by omega), List.take_of_length_le (by omega)]
  have e2 : (sealF ks nonce bs t).drop ((sealF ks nonce bs t).length - 16) = tagF ks nonce bs (streamF ks nonce t) := by
    rw [hl, show t.length + 16 - 16 = t.length by omega]
    unfold sealF
    rw [List.drop_append, List.drop_of_length_le (by omega), hs]
    simp
  rw [openF_4 h (by omega) (by rw [e1, e2]), e1, stream_back]
theorem open_code {ks nonce bs s : List UInt8} (h : (openF ks nonce bs s).2 ≠ 0) : (openF ks nonce bs s).1 = [] := by
  by_cases h1 : nonce.length = 12
  · by_cases h2 : s.length < 16
    · rw [openF_2 h1 h2]
    · by_cases h3 : tagF ks nonce bs (s.take (s.length - 16)) = s.drop (s.length - 16)
      · rw [openF_4 h1 h2 h3] at h; exact absurd rfl h
      · rw [openF_3 h1 h2 h3]
  · rw [openF_1 h1]
theorem seal_open {ks nonce bs s : List UInt8} (h : (openF ks nonce bs s).2 = 0) : sealF ks nonce bs (openF ks nonce bs s).1 = s := by
  by_cases h1 : nonce.length = 12
  · by_cases h2 : s.length < 16
    · rw [openF_2 h1 h2] at h; cases h
    · by_cases h3 : tagF ks nonce bs (s.take (s.length - 16)) = s.drop (s.length - 16)
      · rw [openF_4 h1 h2 h3]
        unfold sealF
        rw [stream_back, h3, List.take_append_drop]
      · rw [openF_3 h1 h2 h3] at h; cases h
  · rw [openF_1 h1] at h; cases h
/-- a byte of the tag turned -/
theorem open_turned {ks nonce bs t : List UInt8} (h : nonce.length = 12) {q : Nat} (hq : q < 16) {x : UInt8} (hx : x ≠ 0) :
    (openF ks nonce bs ((sealF ks nonce bs t).set (t.length + q) ((sealF ks nonce bs t).getD (t.length + q) 0 ^^^ x))).2 = 6 := by
  have hl := sealF_len ks nonce bs t
  have hs := streamF_len ks nonce t
  have htl := tagF_len ks nonce bs (streamF ks nonce t)
  have hg : (sealF ks nonce bs t).getD (t.length + q) 0 = (tagF ks nonce bs (streamF ks nonce t)).getD q 0 := by
    unfold sealF
    rw [List.getD_eq_getElem?_getD, List.getElem?_append_right (by omega), hs, Nat.add_sub_cancel_left, List.getD_eq_getElem?_getD]
  rw [hg]
  have e0 : (sealF ks nonce bs t).set (t.length + q) ((tagF ks nonce bs (streamF ks nonce t)).getD q 0 ^^^ x) = streamF ks nonce t ++ (tagF ks nonce bs (streamF ks nonce t)).set q ((tagF ks nonce bs (streamF ks nonce t)).getD q 0 ^^^ x) := by
    unfold sealF
    rw [List.set_append_right _ _ (by omega), hs, Nat.add_sub_cancel_left]
  rw [e0]
  have hlen : (streamF ks nonce t ++ (tagF ks nonce bs (streamF ks nonce t)).set q ((tagF ks nonce bs (streamF ks nonce t)).getD q 0 ^^^ x)).length = t.length + 16 := by rw [List.length_append, List.length_set, hs, htl]
  rw [openF_3 h (by omega)]
  rw [hlen, show t.length + 16 - 16 = t.length by omega, List.take_append_of_le_length (by omega), List.take_of_length_le (by omega), List.drop_append, List.drop_of_length_le (by omega), hs, Nat.sub_self, List.drop_zero, List.nil_append]
  intro he
  have h2 := congrArg (fun l => l.getD q 0) he
  have h3 : ((tagF ks nonce bs (streamF ks nonce t)).set q ((tagF ks nonce bs (streamF ks nonce t)).getD q 0 ^^^ x)).getD q 0 = (tagF ks nonce bs (streamF ks nonce t)).getD q 0 ^^^ x := by
    simp [show q < (tagF ks nonce bs (streamF ks nonce t)).length by omega]
  rw [h3] at h2
  generalize (tagF ks nonce bs (streamF ks nonce t)).getD q 0 = a at h2
  apply hx
  have h4 : a ^^^ a = a ^^^ (a ^^^ x) := congrArg (fun z => a ^^^ z) h2
  rw [← UInt8.xor_assoc, UInt8.xor_self] at h4
  simpa using h4.symm
theorem open_short {ks nonce bs s : List UInt8} (h : nonce.length = 12) (h2 : s.length < 16) : (openF ks nonce bs s).2 = 3 := by rw [openF_2 h h2]

/-! the example -/
set_option maxRecDepth 100000 in
theorem wk_seal : sealF (aesKeys (zer 32)) (zer 12) [] (zer 16) = wSealed := by decide +kernel
set_option maxRecDepth 100000 in
theorem wk_open : openF (aesKeys (zer 32)) (zer 12) [1] wSealed = ([], 6) := by decide +kernel
theorem wk_back : openF (aesKeys (zer 32)) (zer 12) [] wSealed = (zer 16, 0) := by
  rw [← wk_seal]
  exact open_seal (by decide)
theorem wk_sealG : sealG (aesKeys (zer 32)) (zer 12) [] (zer 16) = (wSealed, 0) := by
  rw [← wk_seal]
  exact if_neg (by decide)
end Go.GW
