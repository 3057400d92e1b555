/- Own words: the field of 128 bits, by bits and by words. Plain Lean. -/
import Derived.Test.YtcchamnagcpaiaaRefG
import Derived.Test.YtcchamnagcpaiaaFldB
import Derived.Test.YtcchamnagcpaiaaEqA
set_option linter.unusedVariables false
set_option linter.unusedSimpArgs false
namespace Go.GW
open Go

/-! ### bits of an element, the first the highest -/
theorem tb_shl64 (a : UInt64) (c i : Nat) : (shl_u64 a c).toNat.testBit i = (decide (i < 64) && (decide (c ≤ i) && a.toNat.testBit (i - c))) := by
  unfold shl_u64
  rw [UInt64.toNat_ofNat', Nat.testBit_mod_two_pow, Nat.testBit_shiftLeft]
theorem tb_shr64 (a : UInt64) (c i : Nat) : (shr_u64 a c).toNat.testBit i = (decide (i < 64) && a.toNat.testBit (c + i)) := by
  unfold shr_u64
  rw [UInt64.toNat_ofNat', Nat.testBit_mod_two_pow, Nat.testBit_shiftRight]
theorem tb_u64 (a : UInt64) {i : Nat} (h : 64 ≤ i) : a.toNat.testBit i = false :=
  Nat.testBit_lt_two_pow (Nat.lt_of_lt_of_le a.toNat_lt (Nat.pow_le_pow_right (by decide) h))
def tbE (e : El) (i : Nat) : Bool := if i < 64 then e.hi.toNat.testBit (63 - i) else e.lo.toNat.testBit (127 - i)
theorem El.ext' {a b : El} (h : ∀ i, i < 128 → tbE a i = tbE b i) : a = b := by
  have h1 : a.hi = b.hi := u64_ext fun i hi => by
    have := h (63 - i) (by omega)
    unfold tbE at this
    rwa [if_pos (by omega), if_pos (by omega), show 63 - (63 - i) = i by omega] at this
  have h2 : a.lo = b.lo := u64_ext fun i hi => by
    have := h (127 - i) (by omega)
    unfold tbE at this
    rwa [if_neg (by omega), if_neg (by omega), show 127 - (127 - i) = i by omega] at this
  cases a; cases b; simp only at h1 h2; rw [h1, h2]
theorem tbE_add (a b : El) (i : Nat) : tbE (a.add b) i = (tbE a i ^^ tbE b i) := by
  unfold tbE El.add
  split <;> simp only [UInt64.toNat_xor, Nat.testBit_xor]
theorem tbE_zero (i : Nat) : tbE ⟨0, 0⟩ i = false := by
  unfold tbE
  split <;> simp
theorem tbE_shr1 (e : El) {i : Nat} (h : i < 128) : tbE e.shr1 i = (decide (0 < i) && tbE e (i - 1)) := by
  unfold tbE El.shr1
  simp only [UInt64.toNat_or, Nat.testBit_or, tb_shr64, tb_shl64]
  rcases (by omega : i = 0 ∨ (0 < i ∧ i < 64) ∨ i = 64 ∨ 64 < i) with h0 | h0 | h0 | h0
  · subst h0; simp [tb_u64 e.hi (i := 64) (by omega)]
  · simp [h0.1, h0.2, show i - 1 < 64 by omega, show 63 - i < 64 by omega, show 1 + (63 - i) = 63 - (i - 1) by omega]
  · subst h0; simp [tb_u64 e.lo (i := 64) (by omega)]
  · simp [show ¬ i < 64 by omega, show ¬ i - 1 < 64 by omega, show 127 - i < 64 by omega, show ¬ 63 ≤ 127 - i by omega, show 0 < i by omega, show 1 + (127 - i) = 127 - (i - 1) by omega]
def redB (i : Nat) : Bool := i == 0 || i == 1 || i == 2 || i == 7
def Rel : El := ⟨16212958658533785600, 0⟩
theorem tbE_R : ∀ i, i < 128 → tbE Rel i = redB i := by decide +kernel
theorem last_bit (e : El) : (e.lo &&& 1 = 1) ↔ tbE e 127 = true := by
  unfold tbE
  rw [if_neg (by decide), ← UInt64.toNat_inj, UInt64.toNat_and]
  show e.lo.toNat &&& 1 = 1 ↔ e.lo.toNat.testBit 0 = true
  rw [Nat.and_one_is_mod, Nat.testBit_zero, decide_eq_true_eq]
theorem next_eq (e : El) : e.next = e.shr1.add (if tbE e 127 then Rel else ⟨0, 0⟩) := by
  unfold El.next
  by_cases h : e.lo &&& 1 = 1
  · rw [if_pos h, if_pos ((last_bit e).1 h)]
    show _ = El.mk (_ ^^^ _) (_ ^^^ 0)
    rw [UInt64.xor_zero]; rfl
  · rw [if_neg h, if_neg (fun h2 => h ((last_bit e).2 h2))]
    show e.shr1 = El.mk (_ ^^^ 0) (_ ^^^ 0)
    rw [UInt64.xor_zero, UInt64.xor_zero]
theorem tbE_next (e : El) {i : Nat} (h : i < 128) : tbE e.next i = ((decide (0 < i) && tbE e (i - 1)) ^^ (tbE e 127 && redB i)) := by
  rw [next_eq, tbE_add, tbE_shr1 e h]
  cases tbE e 127 <;> simp [tbE_zero, tbE_R i h]
/-! ### the field is linear -/
theorem add_assoc' (a b c : El) : (a.add b).add c = a.add (b.add c) := by unfold El.add; simp only [UInt64.xor_assoc]
theorem add_comm' (a b : El) : a.add b = b.add a := by unfold El.add; simp only [UInt64.xor_comm]
theorem add_lc (a b c : El) : a.add (b.add c) = b.add (a.add c) := by rw [← add_assoc', add_comm' a b, add_assoc']
theorem add_zero' (a : El) : a.add ⟨0, 0⟩ = a := by unfold El.add; simp
theorem zero_add' (a : El) : El.add ⟨0, 0⟩ a = a := by unfold El.add; simp
theorem next_add (a b : El) : (a.add b).next = a.next.add b.next := by
  refine El.ext' fun i hi => ?_
  rw [tbE_add, tbE_next _ hi, tbE_next _ hi, tbE_next _ hi, tbE_add, tbE_add]
  cases decide (0 < i) <;> cases tbE a 127 <;> cases tbE b 127 <;> cases redB i <;> cases tbE a (i - 1) <;> cases tbE b (i - 1) <;> rfl
theorem next_zero : El.next ⟨0, 0⟩ = ⟨0, 0⟩ := by decide
theorem nextK_add (a b : El) : ∀ k, nextK (a.add b) k = (nextK a k).add (nextK b k)
  | 0 => rfl
  | k + 1 => by rw [nextK, nextK, nextK, nextK_add a b k, next_add]
theorem nextK_zero : ∀ k, nextK ⟨0, 0⟩ k = ⟨0, 0⟩
  | 0 => rfl
  | k + 1 => by rw [nextK, nextK_zero k, next_zero]
theorem nextK_nextK (a : El) (m : Nat) : ∀ k, nextK (nextK a m) k = nextK a (m + k)
  | 0 => rfl
  | k + 1 => by rw [nextK, nextK_nextK a m k]; rfl
/-- the product with the first n of these bits -/
def mulS (f : Nat → Bool) (h : El) : Nat → El
  | 0 => ⟨0, 0⟩
  | n + 1 => if f n then (mulS f h n).add (nextK h n) else mulS f h n
theorem mulS_congr {f g : Nat → Bool} (h : El) : ∀ n, (∀ j, j < n → f j = g j) → mulS f h n = mulS g h n
  | 0, _ => rfl
  | n + 1, hfg => by rw [mulS, mulS, mulS_congr h n (fun j hj => hfg j (by omega)), hfg n (by omega)]
theorem mulS_next (f : Nat → Bool) (h : El) (k : Nat) : ∀ n, nextK (mulS f h n) k = mulS f (nextK h k) n
  | 0 => nextK_zero k
  | n + 1 => by
    rw [mulS, mulS, ← mulS_next f h k n]
    split
    · rw [nextK_add, nextK_nextK, nextK_nextK, Nat.add_comm]
    · rfl
theorem mulS_split (f : Nat → Bool) (h : El) (m : Nat) : ∀ n, mulS f h (m + n) = (mulS f h m).add (mulS (fun j => f (m + j)) (nextK h m) n)
  | 0 => (add_zero' _).symm
  | n + 1 => by
    show (if f (m + n) then (mulS f h (m + n)).add (nextK h (m + n)) else mulS f h (m + n)) = _
    rw [mulS_split f h m n, mulS, nextK_nextK]
    split
    · rw [add_assoc']
    · rfl
/-! ### by lists of bits -/
def toB (e : El) : List Bool := rgf (tbE e) 128
theorem toB_len (e : El) : (toB e).length = 128 := rgf_len _ _
theorem toB_get (e : El) {i : Nat} (h : i < 128) : (toB e).getD i false = tbE e i := rgf_get _ _ h
theorem lext {a b : List Bool} (ha : a.length = 128) (hb : b.length = 128) (h : ∀ i, i < 128 → a.getD i false = b.getD i false) : a = b := by
  apply List.ext_getElem (by omega)
  intro i h1 h2
  have := h i (by omega)
  simpa [h1, h2] using this
theorem add_toB (a b : El) : addB (toB a) (toB b) = toB (a.add b) := by
  refine lext (addB_len _ _) (toB_len _) fun i hi => ?_
  unfold addB
  rw [pl_get _ _ _ _ _ hi, if_pos hi, toB_get _ hi, toB_get _ hi, toB_get _ hi, tbE_add]
theorem xor_toB (a b : El) : xorB (toB a) (toB b) = toB (a.add b) := by
  refine lext (xorB_len _ _) (toB_len _) fun i hi => ?_
  unfold xorB
  rw [pl_get _ _ _ _ _ hi, if_pos hi, toB_get _ hi, toB_get _ hi, toB_get _ hi, tbE_add]
theorem up_toB (e : El) {i : Nat} (hi : i < 128) : (upB (toB e)).getD i false = (decide (0 < i) && tbE e (i - 1)) := by
  unfold upB
  rw [pl_get _ _ _ _ _ hi, if_pos hi]
  cases i with
  | zero => rfl
  | succ i => simp only [shB]; rw [toB_get _ (by omega)]; simp
theorem lset_ne' {α : Type} (l : List α) {i j : Nat} (x z : α) (h : i ≠ j) : (l.set i x).getD j z = l.getD j z := by simp [h]
theorem rep_get {α : Type} (z : α) : ∀ (n i : Nat), (List.replicate n z).getD i z = z
  | 0, _ => rfl
  | n + 1, 0 => rfl
  | n + 1, i + 1 => by rw [List.replicate_succ, List.getD_cons_succ]; exact rep_get z n i
theorem flip_get (l : List Bool) {j i : Nat} (hi : i < l.length) : (flipB l j).getD i false = ((i == j) ^^ l.getD i false) := by
  unfold flipB
  by_cases h : j = i
  · subst h; simp [hi]
  · rw [lset_ne' _ _ _ h, beq_false_of_ne (fun e => h e.symm)]
    simp
theorem next_toB (e : El) : nxtB (toB e) = toB e.next := by
  refine lext (nxtB_len _) (toB_len _) fun i hi => ?_
  rw [toB_get _ hi, tbE_next _ hi]
  unfold nxtB
  rw [toB_get e (by decide : 127 < 128)]
  cases h : tbE e 127 with
  | true =>
    rw [if_pos rfl, flip_get _ (by rw [flipB_len, flipB_len, flipB_len, upB_len]; exact hi), flip_get _ (by rw [flipB_len, flipB_len, upB_len]; exact hi), flip_get _ (by rw [flipB_len, upB_len]; exact hi), flip_get _ (by rw [upB_len]; exact hi), up_toB e hi]
    unfold redB
    rcases (by omega : i = 0 ∨ i = 1 ∨ i = 2 ∨ i = 7 ∨ (¬ i = 0 ∧ ¬ i = 1 ∧ ¬ i = 2 ∧ ¬ i = 7)) with h | h | h | h | ⟨h1, h2, h3, h4⟩
    · subst h; rfl
    · subst h; simp
    · subst h; simp
    · subst h; simp
    · rw [beq_false_of_ne h1, beq_false_of_ne h2, beq_false_of_ne h3, beq_false_of_ne h4]; simp
  | false => rw [if_neg (by decide), up_toB e hi]; simp
theorem tm_toB (a : List Bool) (h : El) : ∀ i, tmK a (toB h) i = (toB (mulS (fun j => a.getD j false) h i), toB (nextK h i))
  | 0 => by
    rw [tmK]
    refine Prod.ext ?_ rfl
    refine lext (List.length_replicate ..) (toB_len _) fun i hi => ?_
    show _ = (toB ⟨0, 0⟩).getD i false
    rw [toB_get _ hi, tbE_zero]
    exact rep_get _ _ _
  | i + 1 => by
    rw [tmK, tm_toB a h i]
    simp only [mulS, nextK]
    rw [next_toB, add_toB]
    split <;> rfl
theorem times_toB (e h : El) : timesB (toB e) (toB h) = toB (mulS (tbE e) h 128) := by
  unfold timesB
  rw [tm_toB]
  exact congrArg toB (mulS_congr h 128 fun j hj => toB_get e hj)
end Go.GW
