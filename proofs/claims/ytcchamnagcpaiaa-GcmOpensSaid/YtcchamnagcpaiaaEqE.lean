/- Own words: the product by tables is the product by bits; elements and bytes; the hashes agree. Plain Lean. -/
import Derived.Test.YtcchamnagcpaiaaEqD
import Derived.Test.YtcchamnagcpaiaaXorA
set_option linter.unusedVariables false
set_option linter.unusedSimpArgs false
namespace Go.GW
open Go

/-! ### four places at once -/
theorem next_low {e : El} (h : tbE e 127 = false) {i : Nat} (hi : i < 128) : tbE e.next i = (decide (0 < i) && tbE e (i - 1)) := by
  rw [tbE_next e hi, h]; simp
theorem nextK_low {e : El} (h : ∀ j, 124 ≤ j → tbE e j = false) : ∀ k, k ≤ 4 → ∀ i, i < 128 → tbE (nextK e k) i = (decide (k ≤ i) && tbE e (i - k))
  | 0, _, i, _ => by simp [nextK]
  | k + 1, hk, i, hi => by
    have ih := nextK_low h k (by omega)
    rw [nextK, next_low (by rw [ih 127 (by omega), h _ (by omega)]; simp) hi]
    by_cases h0 : 0 < i
    · rw [ih (i - 1) (by omega)]
      simp only [h0, decide_true, Bool.true_and]
      rw [show i - 1 - k = i - (k + 1) by omega]
      congr 1
      exact decide_eq_decide.2 (by omega)
    · simp [h0, show ¬ k + 1 ≤ i by omega]
theorem tov_all : ∀ d, d < 16 → nextK ⟨0, UInt64.ofNat d⟩ 4 = ⟨tov.getD d 0, 0⟩ := by decide +kernel
theorem tb_15 (a : UInt64) (i : Nat) : (a &&& 15).toNat.testBit i = (decide (i < 4) && a.toNat.testBit i) := by
  rw [UInt64.toNat_and, Nat.testBit_and, show (15 : UInt64).toNat = 2 ^ 4 - 1 from rfl, Nat.testBit_two_pow_sub_one, Bool.and_comm]
def hiP (e : El) : El := ⟨e.hi, e.lo ^^^ (e.lo &&& 15)⟩
theorem split15 (e : El) : e = (hiP e).add ⟨0, UInt64.ofNat (e.lo &&& 15).toNat⟩ := by
  unfold hiP El.add
  rw [UInt64.ofNat_toNat, UInt64.xor_zero, UInt64.xor_assoc, UInt64.xor_self, UInt64.xor_zero]
theorem tb_hiP (e : El) (i : Nat) (hi : i < 128) : tbE (hiP e) i = (decide (i < 124) && tbE e i) := by
  unfold tbE hiP
  by_cases h : i < 64
  · simp [h, show i < 124 by omega]
  · simp only [h, if_false]
    rw [UInt64.toNat_xor, Nat.testBit_xor, tb_15]
    by_cases h2 : i < 124
    · simp [h2, show ¬ 127 - i < 4 by omega]
    · simp [h2, show 127 - i < 4 by omega]
theorem shift4 (e : El) : nextK e 4 = ⟨shr_u64 e.hi 4 ^^^ tov.getD (e.lo &&& 15).toNat 0, shr_u64 e.lo 4 ||| shl_u64 e.hi 60⟩ := by
  have h1 : nextK (hiP e) 4 = ⟨shr_u64 e.hi 4, shr_u64 e.lo 4 ||| shl_u64 e.hi 60⟩ := by
    refine El.ext' fun i hi => ?_
    rw [nextK_low (fun j hj => by
      by_cases hj2 : j < 128
      · rw [tb_hiP _ _ hj2]; simp [show ¬ j < 124 by omega]
      · unfold tbE hiP
        rw [if_neg (by omega), UInt64.toNat_xor, Nat.testBit_xor, tb_15, show 127 - j = 0 by omega]; simp) 4 (Nat.le_refl _) i hi]
    by_cases h4 : 4 ≤ i
    · rw [tb_hiP _ _ (by omega)]
      simp only [h4, decide_true, Bool.true_and, show i - 4 < 124 by omega]
      unfold tbE
      simp only [UInt64.toNat_or, Nat.testBit_or, tb_shr64, tb_shl64]
      rcases (by omega : i < 64 ∨ (64 ≤ i ∧ i < 68) ∨ 68 ≤ i) with h | h | h
      · simp [h, show i - 4 < 64 by omega, show 63 - i < 64 by omega, show 4 + (63 - i) = 63 - (i - 4) by omega]
      · simp [show ¬ i < 64 by omega, show i - 4 < 64 by omega, show 127 - i < 64 by omega, show 60 ≤ 127 - i by omega, show 127 - i - 60 = 63 - (i - 4) by omega, tb_u64 e.lo (i := 4 + (127 - i)) (by omega)]
      · simp [show ¬ i < 64 by omega, show ¬ i - 4 < 64 by omega, show 127 - i < 64 by omega, show ¬ 60 ≤ 127 - i by omega, show 4 + (127 - i) = 127 - (i - 4) by omega]
    · unfold tbE
      simp [h4, show i < 64 by omega, tb_shr64, tb_u64 e.hi (i := 4 + (63 - i)) (by omega)]
  have hd : (e.lo &&& 15).toNat < 16 := and15_lt _
  have h2 : nextK e 4 = nextK ((hiP e).add ⟨0, UInt64.ofNat (e.lo &&& 15).toNat⟩) 4 := by rw [← split15]
  rw [h2, nextK_add, h1, tov_all _ hd]
  unfold El.add
  simp
/-! ### the table -/
theorem inn_all (z a b c d : El) : inn (inn (inn [z, a, b, z, c, z, z, z, d, z, z, z, z, z, z, z] 2 1) 4 3) 8 7 =
    [z, a, b, b.add a, c, c.add a, c.add b, c.add (b.add a), d, d.add a, d.add b, d.add (b.add a), d.add c, d.add (c.add a), d.add (c.add b), d.add (c.add (b.add a))] := rfl
theorem L1_all (h : El) : L1 h 3 = [⟨0, 0⟩, nextK h 3, nextK h 2, ⟨0, 0⟩, nextK h 1, ⟨0, 0⟩, ⟨0, 0⟩, ⟨0, 0⟩, h, ⟨0, 0⟩, ⟨0, 0⟩, ⟨0, 0⟩, ⟨0, 0⟩, ⟨0, 0⟩, ⟨0, 0⟩, ⟨0, 0⟩] := rfl
theorem tby_eq (h : El) : tby h = [⟨0, 0⟩, nextK h 3, nextK h 2, (nextK h 2).add (nextK h 3), nextK h 1, (nextK h 1).add (nextK h 3), (nextK h 1).add (nextK h 2), (nextK h 1).add ((nextK h 2).add (nextK h 3)),
    h, h.add (nextK h 3), h.add (nextK h 2), h.add ((nextK h 2).add (nextK h 3)), h.add (nextK h 1), h.add ((nextK h 1).add (nextK h 3)), h.add ((nextK h 1).add (nextK h 2)), h.add ((nextK h 1).add ((nextK h 2).add (nextK h 3)))] := by
  unfold tby
  rw [L2, L2, L2, L2, L1_all]
  exact inn_all _ _ _ _ _
def nib (d : UInt64) (j : Nat) : Bool := d.toNat.testBit (3 - j)
theorem mulS4 (f : Nat → Bool) (h : El) : mulS f h 4 = (((if f 0 then h else ⟨0, 0⟩).add (if f 1 then nextK h 1 else ⟨0, 0⟩)).add (if f 2 then nextK h 2 else ⟨0, 0⟩)).add (if f 3 then nextK h 3 else ⟨0, 0⟩) := by
  simp only [mulS]
  cases f 0 <;> cases f 1 <;> cases f 2 <;> cases f 3 <;> simp [add_zero', zero_add', nextK]
theorem tby_at (h : El) (d : UInt64) : (tby h).getD (d &&& 15).toNat default = mulS (nib d) h 4 := by
  have key : ∀ m, m < 16 → (tby h).getD m default = mulS (fun j => m.testBit (3 - j)) h 4 := by
    intro m hm
    rw [tby_eq, mulS4]
    rcases (by omega : m = 0 ∨ m = 1 ∨ m = 2 ∨ m = 3 ∨ m = 4 ∨ m = 5 ∨ m = 6 ∨ m = 7 ∨ m = 8 ∨ m = 9 ∨ m = 10 ∨ m = 11 ∨ m = 12 ∨ m = 13 ∨ m = 14 ∨ m = 15) with h | h | h | h | h | h | h | h | h | h | h | h | h | h | h | h <;> subst h <;>
      simp [add_zero', zero_add', add_assoc', Nat.testBit, Nat.shiftRight, Nat.land]
  rw [key _ (and15_lt _)]
  refine mulS_congr h 4 fun j hj => ?_
  unfold nib
  rw [tb_15]
  simp [show 3 - j < 4 by omega]
/-! ### the product -/
theorem hstep_eq (h out : El) (d : UInt64) : hstep h out d = (nextK out 4).add (mulS (nib d) h 4) := by
  unfold hstep
  rw [tby_at, shift4]
theorem hst_eq (h out : El) (w : UInt64) : ∀ q, q ≤ 16 → hst h out w q = (nextK out (4 * q)).add (mulS (fun j => w.toNat.testBit (4 * q - 1 - j)) h (4 * q))
  | 0, _ => (add_zero' _).symm
  | q + 1, hq => by
    rw [hst, hst_eq h out w q (by omega), hstep_eq, nextK_add, nextK_nextK, mulS_next, show 4 * (q + 1) = 4 * q + 4 by omega]
    rw [show mulS (fun j => w.toNat.testBit (4 * q + 4 - 1 - j)) h (4 * q + 4) = mulS (fun j => w.toNat.testBit (4 * q + 4 - 1 - j)) h (4 + 4 * q) by rw [Nat.add_comm], mulS_split]
    rw [mulS_congr (f := nib (shr_u64 w (4 * q))) (g := fun j => w.toNat.testBit (4 * q + 4 - 1 - j)) h 4 (fun j hj => by
      unfold nib
      rw [tb_shr64]
      simp [show 3 - j < 64 by omega, show 4 * q + (3 - j) = 4 * q + 4 - 1 - j by omega])]
    rw [mulS_congr (f := fun j => w.toNat.testBit (4 * q + 4 - 1 - (4 + j))) (g := fun j => w.toNat.testBit (4 * q - 1 - j)) (nextK h 4) (4 * q) (fun j hj => by
      simp only [show 4 * q + 4 - 1 - (4 + j) = 4 * q - 1 - j by omega])]
    rw [add_assoc', add_comm' (mulS _ (nextK h 4) _)]
theorem times_eq (h e : El) : h.times e = mulS (tbE e) h 128 := by
  show hst h (hst h ⟨0, 0⟩ e.lo 16) e.hi 16 = _
  rw [hst_eq _ _ _ 16 (Nat.le_refl _), hst_eq _ _ _ 16 (Nat.le_refl _), nextK_zero, zero_add', mulS_next, show 128 = 64 + 64 from rfl, mulS_split, add_comm']
  rw [mulS_congr (f := tbE e) (g := fun j => e.hi.toNat.testBit (4 * 16 - 1 - j)) h 64 (fun j hj => by unfold tbE; rw [if_pos hj])]
  rw [mulS_congr (f := fun j => tbE e (64 + j)) (g := fun j => e.lo.toNat.testBit (4 * 16 - 1 - j)) (nextK h 64) 64 (fun j hj => by
    show tbE e (64 + j) = _
    unfold tbE
    rw [if_neg (by omega), show 127 - (64 + j) = 4 * 16 - 1 - j by omega])]
end Go.GW
