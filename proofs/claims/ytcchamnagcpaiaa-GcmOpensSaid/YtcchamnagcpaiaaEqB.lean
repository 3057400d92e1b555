/- Own words: rounds and keys of the two ciphers agree. Plain Lean. -/
import Derived.Test.YtcchamnagcpaiaaEqA
set_option linter.unusedVariables false
set_option linter.unusedSimpArgs false
namespace Go.GW
open Go

/-! ### a round -/
theorem rgf_congr {α : Type} {f g : Nat → α} {n : Nat} (h : ∀ i, i < n → f i = g i) : rgf f n = (List.range n).map g := by
  unfold rgf
  exact List.map_congr_left fun i hi => h i (List.mem_range.1 hi)
theorem shifted_eq (b : List UInt8) : shiftedR aesBox b = shiftF b := by
  refine rgf_congr fun i hi => ?_
  unfold shR sbx
  rw [show 4 * ((i / 4 + i % 4) % 4) + i % 4 = (i + 4 * (i % 4)) % 16 by omega]
theorem mix4 (a b c d : UInt8) : timesR a 2 ^^^ timesR b 3 ^^^ c ^^^ d = a ^^^ (a ^^^ b ^^^ c ^^^ d) ^^^ stw (a ^^^ b).toNat := by
  rw [times2, times3, stw_eq, dbl_xor]
  simp only [UInt8.xor_assoc, UInt8.xor_comm, x8_lc, x8_xx]
theorem mixed_eq (b : List UInt8) : mixedR b = mixF b := by
  refine rgf_congr fun i hi => ?_
  show mxAt b (i / 4) (i % 4) = mixAt b (i / 4) (i % 4)
  unfold mxAt mixAt allB
  rcases (by omega : i % 4 = 0 ∨ i % 4 = 1 ∨ i % 4 = 2 ∨ i % 4 = 3) with h | h | h | h <;> rw [h, mix4] <;>
    simp only [Nat.add_zero, Nat.reduceAdd, Nat.reduceMod] <;> congr 2 <;> simp only [UInt8.xor_assoc, UInt8.xor_comm, x8_lc]
/-! ### words, bytes -/
def by4 (x : UInt32) (k : Nat) : UInt8 := UInt8.ofNat (x.toNat >>> (8 * k))
theorem tb_by4 (x : UInt32) (k i : Nat) : (by4 x k).toNat.testBit i = (decide (i < 8) && x.toNat.testBit (8 * k + i)) := by
  unfold by4
  rw [UInt8.toNat_ofNat', Nat.testBit_mod_two_pow, Nat.testBit_shiftRight]
def w4 (x : UInt32) : List UInt8 := [by4 x 3, by4 x 2, by4 x 1, by4 x 0]
theorem w4_eq (x : UInt32) : putN x.toUInt64 4 = w4 x := by
  have hx : x.toUInt64.toNat = x.toNat := by simp
  have key : ∀ j, (h : j < 4) → (putN x.toUInt64 4)[j]'(by rw [putN_length]; exact h) = by4 x (3 - j) := by
    intro j h
    have h1 := putN_get 4 x.toUInt64 j h
    rw [List.getElem?_eq_getElem (by rw [putN_length]; exact h), Option.some.injEq] at h1
    rw [h1]
    unfold by4
    apply UInt8.toNat_inj.1
    rw [UInt8.toNat_ofNat', UInt8.toNat_ofNat', hx, Nat.shiftRight_eq_div_pow, Nat.pow_mul, show 2 ^ 8 = 256 from rfl, Nat.mod_mod, show 4 - 1 - j = 3 - j by omega]
  apply List.ext_getElem
  · rw [putN_length]; rfl
  · intro j h1 h2
    rw [putN_length] at h1
    rw [key j h1]
    rcases (by omega : j = 0 ∨ j = 1 ∨ j = 2 ∨ j = 3) with rfl | rfl | rfl | rfl <;> rfl
theorem w4_len (x : UInt32) : (w4 x).length = 4 := rfl
theorem by4_xor (x y : UInt32) (k : Nat) : by4 (x ^^^ y) k = by4 x k ^^^ by4 y k := by
  apply u8_ext
  intro i hi
  rw [UInt8.toNat_xor, Nat.testBit_xor, tb_by4, tb_by4, tb_by4, UInt32.toNat_xor, Nat.testBit_xor]
  cases decide (i < 8) <;> simp
theorem both4 (a b c d a' b' c' d' : UInt8) : bothR [a, b, c, d] [a', b', c', d'] = [a ^^^ a', b ^^^ b', c ^^^ c', d ^^^ d'] := rfl
theorem w4_xor (x y : UInt32) : w4 (x ^^^ y) = bothR (w4 x) (w4 y) := by
  unfold w4
  rw [both4, by4_xor, by4_xor, by4_xor, by4_xor]
/-- a byte of four put together -/
theorem by4_or {a b c d : UInt8} : by4 (shl_u32 a.toUInt32 24 ||| shl_u32 b.toUInt32 16 ||| shl_u32 c.toUInt32 8 ||| d.toUInt32) 3 = a ∧ by4 (shl_u32 a.toUInt32 24 ||| shl_u32 b.toUInt32 16 ||| shl_u32 c.toUInt32 8 ||| d.toUInt32) 2 = b
    ∧ by4 (shl_u32 a.toUInt32 24 ||| shl_u32 b.toUInt32 16 ||| shl_u32 c.toUInt32 8 ||| d.toUInt32) 1 = c ∧ by4 (shl_u32 a.toUInt32 24 ||| shl_u32 b.toUInt32 16 ||| shl_u32 c.toUInt32 8 ||| d.toUInt32) 0 = d := by
  have hbits : ∀ k i, i < 8 → (by4 (shl_u32 a.toUInt32 24 ||| shl_u32 b.toUInt32 16 ||| shl_u32 c.toUInt32 8 ||| d.toUInt32) k).toNat.testBit i =
      (decide (8 * k + i < 32) && (((decide (24 ≤ 8 * k + i) && a.toNat.testBit (8 * k + i - 24) || decide (16 ≤ 8 * k + i) && b.toNat.testBit (8 * k + i - 16)) || decide (8 ≤ 8 * k + i) && c.toNat.testBit (8 * k + i - 8)))
        || d.toNat.testBit (8 * k + i)) := by
    intro k i hi
    rw [tb_by4]
    simp only [UInt32.toNat_or, Nat.testBit_or, tb_shl32, UInt8.toNat_toUInt32, hi, decide_true, Bool.true_and]
    cases decide (8 * k + i < 32) <;> simp
  refine ⟨?_, ?_, ?_, ?_⟩ <;> apply u8_ext <;> intro i hi <;> rw [hbits _ i hi]
  · rw [tb_u8 b (i := 8 * 3 + i - 16) (by omega), tb_u8 c (i := 8 * 3 + i - 8) (by omega), tb_u8 d (i := 8 * 3 + i) (by omega), show 8 * 3 + i - 24 = i by omega]
    simp [show 8 * 3 + i < 32 by omega]
  · rw [tb_u8 c (i := 8 * 2 + i - 8) (by omega), tb_u8 d (i := 8 * 2 + i) (by omega), show 8 * 2 + i - 16 = i by omega]
    simp [show ¬ 24 ≤ 8 * 2 + i by omega, show 8 * 2 + i < 32 by omega]
  · rw [tb_u8 d (i := 8 * 1 + i) (by omega), show 8 * 1 + i - 8 = i by omega]
    simp [show ¬ 24 ≤ 8 * 1 + i by omega, show ¬ 16 ≤ 8 * 1 + i by omega, show 8 * 1 + i < 32 by omega]
  · rw [show 8 * 0 + i = i by omega]
    simp [show ¬ 24 ≤ i by omega, show ¬ 16 ≤ i by omega, show ¬ 8 ≤ i by omega]
theorem w4_or (a b c d : UInt8) : w4 (shl_u32 a.toUInt32 24 ||| shl_u32 b.toUInt32 16 ||| shl_u32 c.toUInt32 8 ||| d.toUInt32) = [a, b, c, d] := by
  obtain ⟨h1, h2, h3, h4⟩ := @by4_or a b c d
  unfold w4
  rw [h1, h2, h3, h4]
theorem b3_eq (n : UInt32) : (shr_u32 n 24).toNat = (by4 n 3).toNat := by
  apply Nat.eq_of_testBit_eq
  intro i
  rw [tb_shr32, tb_by4]
  by_cases h : i < 8
  · simp [h, show i < 32 by omega]
  · rw [tb_u32 n (i := 24 + i) (by omega)]; simp [h]
theorem bk_eq (n : UInt32) (k c : Nat) (hc : c = 8 * k) (hk : k ≤ 2) : (shr_u32 n c &&& 255).toNat = (by4 n k).toNat := by
  subst hc
  apply Nat.eq_of_testBit_eq
  intro i
  rw [UInt32.toNat_and, Nat.testBit_and, tb_shr32, tb_by4, show (255 : UInt32).toNat = 2 ^ 8 - 1 from rfl, Nat.testBit_two_pow_sub_one]
  by_cases h : i < 8
  · simp [h, show i < 32 by omega]
  · simp [h]
theorem b0_eq (n : UInt32) : (n &&& 255).toNat = (by4 n 0).toNat := by
  apply Nat.eq_of_testBit_eq
  intro i
  rw [UInt32.toNat_and, Nat.testBit_and, tb_by4, show (255 : UInt32).toNat = 2 ^ 8 - 1 from rfl, Nat.testBit_two_pow_sub_one, show 8 * 0 + i = i by omega, Bool.and_comm]
theorem word_eq (n : UInt32) : w4 (wordF n) = subR aesBox (w4 n) := by
  unfold wordF
  rw [w4_or, b3_eq, bk_eq n 2 16 rfl (by decide), bk_eq n 1 8 rfl (by decide), b0_eq]
  rfl
theorem rot_by (n : UInt32) : by4 (shl_u32 n 8 ||| shr_u32 n 24) 3 = by4 n 2 ∧ by4 (shl_u32 n 8 ||| shr_u32 n 24) 2 = by4 n 1 ∧ by4 (shl_u32 n 8 ||| shr_u32 n 24) 1 = by4 n 0 ∧ by4 (shl_u32 n 8 ||| shr_u32 n 24) 0 = by4 n 3 := by
  have hbits : ∀ k i, i < 8 → (by4 (shl_u32 n 8 ||| shr_u32 n 24) k).toNat.testBit i = (decide (8 * k + i < 32) && (decide (8 ≤ 8 * k + i) && n.toNat.testBit (8 * k + i - 8)) || decide (8 * k + i < 32) && n.toNat.testBit (24 + (8 * k + i))) := by
    intro k i hi
    rw [tb_by4]
    simp only [UInt32.toNat_or, Nat.testBit_or, tb_shl32, tb_shr32, hi, decide_true, Bool.true_and]
  refine ⟨?_, ?_, ?_, ?_⟩ <;> apply u8_ext <;> intro i hi <;> rw [hbits _ i hi, tb_by4]
  · rw [tb_u32 n (i := 24 + (8 * 3 + i)) (by omega), show 8 * 3 + i - 8 = 8 * 2 + i by omega]; simp [hi, show 8 * 3 + i < 32 by omega, show 8 ≤ 8 * 3 + i by omega]
  · rw [tb_u32 n (i := 24 + (8 * 2 + i)) (by omega), show 8 * 2 + i - 8 = 8 * 1 + i by omega]; simp [hi, show 8 * 2 + i < 32 by omega, show 8 ≤ 8 * 2 + i by omega]
  · rw [tb_u32 n (i := 24 + (8 * 1 + i)) (by omega), show 8 * 1 + i - 8 = 8 * 0 + i by omega]; simp [hi, show 8 * 1 + i < 32 by omega]
  · rw [show 24 + (8 * 0 + i) = 8 * 3 + i by omega]; simp [hi, show ¬ 8 ≤ i by omega, show i < 32 by omega]
theorem w4_top (r : UInt8) : w4 (shl_u32 r.toUInt32 24) = [r, 0, 0, 0] := by
  have h := w4_or r 0 0 0
  have e : shl_u32 r.toUInt32 24 ||| shl_u32 (0 : UInt8).toUInt32 16 ||| shl_u32 (0 : UInt8).toUInt32 8 ||| (0 : UInt8).toUInt32 = shl_u32 r.toUInt32 24 := by
    rw [show shl_u32 (0 : UInt8).toUInt32 16 = 0 from rfl, show shl_u32 (0 : UInt8).toUInt32 8 = 0 from rfl, show (0 : UInt8).toUInt32 = 0 from rfl, UInt32.or_zero, UInt32.or_zero, UInt32.or_zero]
  rwa [e] at h
theorem turn_eq (n : UInt32) (r : UInt8) : w4 (wordF (shl_u32 n 8 ||| shr_u32 n 24) ^^^ shl_u32 r.toUInt32 24) = turnR aesBox (w4 n) r := by
  rw [w4_xor, word_eq, w4_top]
  obtain ⟨h1, h2, h3, h4⟩ := rot_by n
  have e : w4 (shl_u32 n 8 ||| shr_u32 n 24) = [by4 n 2, by4 n 1, by4 n 0, by4 n 3] := by
    unfold w4
    rw [h1, h2, h3, h4]
  rw [e]
  show bothR [_, _, _, _] [r, 0, 0, 0] = _
  rw [both4, UInt8.xor_zero, UInt8.xor_zero, UInt8.xor_zero]
  rfl
/-- four bytes, taken in and given out -/
theorem w4_get (a b c d : UInt8) : w4 (getN [a, b, c, d]).toUInt32 = [a, b, c, d] := by
  have e : (getN [a, b, c, d]).toUInt32 = shl_u32 a.toUInt32 24 ||| shl_u32 b.toUInt32 16 ||| shl_u32 c.toUInt32 8 ||| d.toUInt32 := by
    apply u32_ext
    intro i hi
    simp only [getN, List.foldl_cons, List.foldl_nil, UInt64.toNat_toUInt32, shl_u64, UInt64.toNat_or, UInt64.toNat_ofNat', UInt32.toNat_or, Nat.testBit_or, Nat.testBit_mod_two_pow, Nat.testBit_shiftLeft, tb_shl32, UInt8.toNat_toUInt32, UInt8.toNat_toUInt64, UInt64.toNat_zero, Nat.zero_shiftLeft, Nat.zero_mod, Nat.zero_testBit]
    rcases (by omega : i < 8 ∨ (8 ≤ i ∧ i < 16) ∨ (16 ≤ i ∧ i < 24) ∨ 24 ≤ i) with h | h | h | h
    · simp [hi, show i < 64 by omega, show ¬ 8 ≤ i by omega, show ¬ 16 ≤ i by omega, show ¬ 24 ≤ i by omega]
    · simp [hi, show i < 64 by omega, h.1, show i - 8 < 64 by omega, show ¬ 8 ≤ i - 8 by omega, show ¬ 16 ≤ i by omega, show ¬ 24 ≤ i by omega]
    · simp [hi, show i < 64 by omega, show 8 ≤ i by omega, show i - 8 < 64 by omega, show 8 ≤ i - 8 by omega, show i - 8 - 8 < 64 by omega, show ¬ 8 ≤ i - 8 - 8 by omega, h.1, show ¬ 24 ≤ i by omega, show i - 16 < 64 by omega, show ¬ 8 ≤ i - 16 by omega, Nat.sub_sub]
    · simp [hi, show i < 64 by omega, show 8 ≤ i by omega, show i - 8 < 64 by omega, show 8 ≤ i - 8 by omega, show i - 16 < 64 by omega, show 8 ≤ i - 16 by omega, show 16 ≤ i by omega, h, Nat.sub_sub]
  rw [e, w4_or]

/-! ### the keys -/
theorem take4 {l : List UInt8} (h : l.length = 4) : ∃ a b c d, l = [a, b, c, d] := by
  match l, h with
  | [a, b, c, d], _ => exact ⟨a, b, c, d, rfl⟩
theorem lset_eq {α : Type} (l : List α) {i : Nat} (x z : α) (h : i < l.length) : (l.set i x).getD i z = x := by simp [h]
theorem lset_ne {α : Type} (l : List α) {i j : Nat} (x z : α) (h : i ≠ j) : (l.set i x).getD j z = l.getD j z := by simp [h]
/-- word j of the key, once it stands -/
def wd (key : List UInt8) (j : Nat) : UInt32 := (wx key (j + 1)).1.getD j 0
theorem wx_step (key : List UInt8) (i : Nat) : ∃ x, (wx key (i + 1)).1 = (wx key i).1.set i x := by
  by_cases h : i < 8
  · exact ⟨_, by rw [wx_1 key h]⟩
  · by_cases h2 : i % 8 = 0
    · exact ⟨_, by rw [wx_2 key h h2]⟩
    · by_cases h3 : i % 8 = 4
      · exact ⟨_, by rw [wx_3 key h h2 h3]⟩
      · exact ⟨_, by rw [wx_4 key h h2 h3]⟩
theorem wx_stays (key : List UInt8) {j : Nat} : ∀ {i}, j < i → (wx key i).1.getD j 0 = wd key j
  | 0, h => absurd h (by omega)
  | i + 1, h => by
    by_cases hij : j = i
    · subst hij; rfl
    · obtain ⟨x, hx⟩ := wx_step key i
      rw [hx, lset_ne _ _ _ (fun e => hij e.symm)]
      exact wx_stays key (by omega)
theorem wd_1 (key : List UInt8) {j : Nat} (h : j < 8) : wd key j = (getN (key4 key j)).toUInt32 := by
  unfold wd
  rw [wx_1 key h]
  exact lset_eq _ _ _ (by rw [wx_len]; omega)
theorem wd_2 (key : List UInt8) {j : Nat} (h : ¬ j < 8) (h2 : j % 8 = 0) (h60 : j < 60) : wd key j = wd key (j - 8) ^^^ (wordF (shl_u32 (wd key (j - 1)) 8 ||| shr_u32 (wd key (j - 1)) 24) ^^^ shl_u32 (wx key j).2.toUInt32 24) := by
  unfold wd
  rw [wx_2 key h h2]
  show List.getD (List.set _ j _) j 0 = _
  rw [lset_eq _ _ _ (by rw [wx_len]; exact h60), wx_stays key (j := j - 8) (by omega)]
  unfold wlast
  rw [wx_stays key (j := j - 1) (by omega)]
  rfl
theorem wd_3 (key : List UInt8) {j : Nat} (h : ¬ j < 8) (h2 : ¬ j % 8 = 0) (h3 : j % 8 = 4) (h60 : j < 60) : wd key j = wd key (j - 8) ^^^ wordF (wd key (j - 1)) := by
  unfold wd
  rw [wx_3 key h h2 h3]
  show List.getD (List.set _ j _) j 0 = _
  rw [lset_eq _ _ _ (by rw [wx_len]; exact h60), wx_stays key (j := j - 8) (by omega)]
  unfold wlast
  rw [wx_stays key (j := j - 1) (by omega)]
  rfl
theorem wd_4 (key : List UInt8) {j : Nat} (h : ¬ j < 8) (h2 : ¬ j % 8 = 0) (h3 : ¬ j % 8 = 4) (h60 : j < 60) : wd key j = wd key (j - 8) ^^^ wd key (j - 1) := by
  unfold wd
  rw [wx_4 key h h2 h3]
  show List.getD (List.set _ j _) j 0 = _
  rw [lset_eq _ _ _ (by rw [wx_len]; exact h60), wx_stays key (j := j - 8) (by omega)]
  unfold wlast
  rw [wx_stays key (j := j - 1) (by omega)]
  rfl
/-- the reference's words are the bytes of the module's -/
theorem wr_eq {key : List UInt8} (hk : key.length = 32) : ∀ i, 8 + i ≤ 60 → (∀ j, j < 8 + i → (wr aesBox key i).1.getD j [] = w4 (wd key j)) ∧ (wr aesBox key i).2 = (wx key (8 + i)).2
  | 0, _ => by
    constructor
    · intro j hj
      show (rgf (key4 key) 8).getD j [] = _
      rw [rgf_get _ _ (by omega), wd_1 key (by omega)]
      have hl : (key4 key j).length = 4 := by unfold key4; rw [List.length_take, List.length_drop]; omega
      obtain ⟨a, b, c, d, e⟩ := take4 hl
      rw [e, w4_get]
    · show (1 : UInt8) = (wx key 8).2
      have e : ∀ i, i ≤ 8 → (wx key i).2 = 1 := by
        intro i
        induction i with
        | zero => intro _; rfl
        | succ i ih => intro h; rw [wx_1 key (by omega)]; exact ih (by omega)
      exact (e 8 (Nat.le_refl _)).symm
  | i + 1, h => by
    obtain ⟨ih1, ih2⟩ := wr_eq hk i (by omega)
    have hl : (wr aesBox key i).1.length = 8 + i := wr_len _ _ _
    constructor
    · intro j hj
      show ((wr aesBox key i).1 ++ [bothR ((wr aesBox key i).1.getD i []) (wmid aesBox ((wr aesBox key i).1.getD (i + 7) []) (wr aesBox key i).2 i)]).getD j [] = _
      by_cases hji : j < 8 + i
      · rw [← ih1 j hji]
        simp only [List.getD_eq_getElem?_getD]
        rw [List.getElem?_append_left (by omega)]
      · have hj2 : j = 8 + i := by omega
        subst hj2
        simp only [List.getD_eq_getElem?_getD]
        rw [List.getElem?_append_right (by omega), hl, Nat.sub_self]
        simp only [List.getElem?_cons_zero, Option.getD_some]
        simp only [← List.getD_eq_getElem?_getD]
        rw [ih1 i (by omega), ih1 (i + 7) (by omega), ih2]
        unfold wmid
        by_cases h0 : (8 + i) % 8 = 0
        · rw [if_pos h0, wd_2 key (by omega) h0 (by omega), w4_xor, turn_eq, show 8 + i - 8 = i by omega, show 8 + i - 1 = i + 7 by omega]
        · rw [if_neg h0]
          by_cases h4 : (8 + i) % 8 = 4
          · rw [if_pos h4, wd_3 key (by omega) h0 h4 (by omega), w4_xor, word_eq, show 8 + i - 8 = i by omega, show 8 + i - 1 = i + 7 by omega]
          · rw [if_neg h4, wd_4 key (by omega) h0 h4 (by omega), w4_xor, show 8 + i - 8 = i by omega, show 8 + i - 1 = i + 7 by omega]
    · show (if (8 + i) % 8 = 0 then timesR (wr aesBox key i).2 2 else (wr aesBox key i).2) = _
      rw [ih2, show 8 + (i + 1) = (8 + i) + 1 by omega]
      by_cases h0 : (8 + i) % 8 = 0
      · rw [if_pos h0, wx_2 key (by omega) h0, times2]
      · rw [if_neg h0]
        by_cases h4 : (8 + i) % 8 = 4
        · rw [wx_3 key (by omega) h0 h4]
        · rw [wx_4 key (by omega) h0 h4]
end Go.GW
