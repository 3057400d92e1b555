/- Own words, part D2: unsigned numbers, conversions, strings, Bools. -/
import Derived.Test.YtcchamnagcpaiaaGwD
set_option linter.unusedVariables false
set_option linter.unusedSimpArgs false
namespace Go.GW
open Go


def shl_u8 (a : UInt8) (c : Nat) : UInt8 := UInt8.ofNat (a.toNat <<< c)
def shr_u8 (a : UInt8) (c : Nat) : UInt8 := UInt8.ofNat (a.toNat >>> c)
theorem bv_u8 (a : UInt8) : BitVec.ofInt 8 (a.toNat : Int) = a.toBitVec := by
  rw [BitVec.ofInt_natCast]; exact BitVec.ofNat_toNat _ _ |>.trans (by simp)
theorem wrap_u8 (x : Nat) : IntKind.u8.wrap (x : Int) = ((x % 256 : Nat) : Int) := by rw [IntKind.wrap_u8]; omega
theorem toNat_lt_u8 (a : UInt8) : a.toNat < 256 := a.toNat_lt
theorem shl_val_u8 (a : UInt8) (c : Nat) : IntKind.u8.wrap ((a.toNat : Int) * 2 ^ (min c 8)) = (((shl_u8 a c).toNat : Nat) : Int) := by
  have e : ((a.toNat : Int) * 2 ^ (min c 8)) = ((a.toNat * 2 ^ (min c 8) : Nat) : Int) := by push_cast; rfl
  rw [e, wrap_u8]
  congr 1
  unfold shl_u8
  rw [UInt8.toNat_ofNat', Nat.shiftLeft_eq]
  rcases Nat.le_total c 8 with h | h
  · rw [Nat.min_eq_left h]
  · rw [Nat.min_eq_right h]
    obtain ⟨q, rfl⟩ := Nat.exists_eq_add_of_le h
    rw [Nat.pow_add, ← Nat.mul_assoc, Nat.mul_right_comm]
    have h1 : a.toNat * 2 ^ 8 % 256 = 0 := Nat.mul_mod_left _ _
    have h2 : a.toNat * 2 ^ q * 2 ^ 8 % 2 ^ 8 = 0 := Nat.mul_mod_left _ _
    rw [h1]
    exact h2.symm
theorem shr_val_u8 (a : UInt8) (c : Nat) : (a.toNat : Int).fdiv (2 ^ (min c 8)) = (((shr_u8 a c).toNat : Nat) : Int) := by
  have e : ((2 : Int) ^ (min c 8)) = ((2 ^ (min c 8) : Nat) : Int) := by push_cast; rfl
  have hlt := a.toNat_lt
  rw [e, Int.fdiv_eq_ediv_of_nonneg _ (Int.natCast_nonneg _), ← Int.natCast_ediv]
  congr 1
  unfold shr_u8
  rw [UInt8.toNat_ofNat', Nat.shiftRight_eq_div_pow]
  have h3 : a.toNat / 2 ^ c < 256 := Nat.lt_of_le_of_lt (Nat.div_le_self _ _) hlt
  rw [Nat.mod_eq_of_lt h3]
  rcases Nat.le_total c 8 with h | h
  · rw [Nat.min_eq_left h]
  · rw [Nat.min_eq_right h, Nat.div_eq_of_lt hlt, Nat.div_eq_of_lt]
    exact Nat.lt_of_lt_of_le hlt (Nat.pow_le_pow_right (by omega) h)


def shl_u32 (a : UInt32) (c : Nat) : UInt32 := UInt32.ofNat (a.toNat <<< c)
def shr_u32 (a : UInt32) (c : Nat) : UInt32 := UInt32.ofNat (a.toNat >>> c)
theorem bv_u32 (a : UInt32) : BitVec.ofInt 32 (a.toNat : Int) = a.toBitVec := by
  rw [BitVec.ofInt_natCast]; exact BitVec.ofNat_toNat _ _ |>.trans (by simp)
theorem wrap_u32 (x : Nat) : IntKind.u32.wrap (x : Int) = ((x % 4294967296 : Nat) : Int) := by rw [IntKind.wrap_u32]; omega
theorem toNat_lt_u32 (a : UInt32) : a.toNat < 4294967296 := a.toNat_lt
theorem shl_val_u32 (a : UInt32) (c : Nat) : IntKind.u32.wrap ((a.toNat : Int) * 2 ^ (min c 32)) = (((shl_u32 a c).toNat : Nat) : Int) := by
  have e : ((a.toNat : Int) * 2 ^ (min c 32)) = ((a.toNat * 2 ^ (min c 32) : Nat) : Int) := by push_cast; rfl
  rw [e, wrap_u32]
  congr 1
  unfold shl_u32
  rw [UInt32.toNat_ofNat', Nat.shiftLeft_eq]
  rcases Nat.le_total c 32 with h | h
  · rw [Nat.min_eq_left h]
  · rw [Nat.min_eq_right h]
    obtain ⟨q, rfl⟩ := Nat.exists_eq_add_of_le h
    rw [Nat.pow_add, ← Nat.mul_assoc, Nat.mul_right_comm]
    have h1 : a.toNat * 2 ^ 32 % 4294967296 = 0 := Nat.mul_mod_left _ _
    have h2 : a.toNat * 2 ^ q * 2 ^ 32 % 2 ^ 32 = 0 := Nat.mul_mod_left _ _
    rw [h1]
    exact h2.symm
theorem shr_val_u32 (a : UInt32) (c : Nat) : (a.toNat : Int).fdiv (2 ^ (min c 32)) = (((shr_u32 a c).toNat : Nat) : Int) := by
  have e : ((2 : Int) ^ (min c 32)) = ((2 ^ (min c 32) : Nat) : Int) := by push_cast; rfl
  have hlt := a.toNat_lt
  rw [e, Int.fdiv_eq_ediv_of_nonneg _ (Int.natCast_nonneg _), ← Int.natCast_ediv]
  congr 1
  unfold shr_u32
  rw [UInt32.toNat_ofNat', Nat.shiftRight_eq_div_pow]
  have h3 : a.toNat / 2 ^ c < 4294967296 := Nat.lt_of_le_of_lt (Nat.div_le_self _ _) hlt
  rw [Nat.mod_eq_of_lt h3]
  rcases Nat.le_total c 32 with h | h
  · rw [Nat.min_eq_left h]
  · rw [Nat.min_eq_right h, Nat.div_eq_of_lt hlt, Nat.div_eq_of_lt]
    exact Nat.lt_of_lt_of_le hlt (Nat.pow_le_pow_right (by omega) h)


def shl_u64 (a : UInt64) (c : Nat) : UInt64 := UInt64.ofNat (a.toNat <<< c)
def shr_u64 (a : UInt64) (c : Nat) : UInt64 := UInt64.ofNat (a.toNat >>> c)
theorem bv_u64 (a : UInt64) : BitVec.ofInt 64 (a.toNat : Int) = a.toBitVec := by
  rw [BitVec.ofInt_natCast]; exact BitVec.ofNat_toNat _ _ |>.trans (by simp)
theorem wrap_u64 (x : Nat) : IntKind.u64.wrap (x : Int) = ((x % 18446744073709551616 : Nat) : Int) := by rw [IntKind.wrap_u64]; omega
theorem toNat_lt_u64 (a : UInt64) : a.toNat < 18446744073709551616 := a.toNat_lt
theorem shl_val_u64 (a : UInt64) (c : Nat) : IntKind.u64.wrap ((a.toNat : Int) * 2 ^ (min c 64)) = (((shl_u64 a c).toNat : Nat) : Int) := by
  have e : ((a.toNat : Int) * 2 ^ (min c 64)) = ((a.toNat * 2 ^ (min c 64) : Nat) : Int) := by push_cast; rfl
  rw [e, wrap_u64]
  congr 1
  unfold shl_u64
  rw [UInt64.toNat_ofNat', Nat.shiftLeft_eq]
  rcases Nat.le_total c 64 with h | h
  · rw [Nat.min_eq_left h]
  · rw [Nat.min_eq_right h]
    obtain ⟨q, rfl⟩ := Nat.exists_eq_add_of_le h
    rw [Nat.pow_add, ← Nat.mul_assoc, Nat.mul_right_comm]
    have h1 : a.toNat * 2 ^ 64 % 18446744073709551616 = 0 := Nat.mul_mod_left _ _
    have h2 : a.toNat * 2 ^ q * 2 ^ 64 % 2 ^ 64 = 0 := Nat.mul_mod_left _ _
    rw [h1]
    exact h2.symm
theorem shr_val_u64 (a : UInt64) (c : Nat) : (a.toNat : Int).fdiv (2 ^ (min c 64)) = (((shr_u64 a c).toNat : Nat) : Int) := by
  have e : ((2 : Int) ^ (min c 64)) = ((2 ^ (min c 64) : Nat) : Int) := by push_cast; rfl
  have hlt := a.toNat_lt
  rw [e, Int.fdiv_eq_ediv_of_nonneg _ (Int.natCast_nonneg _), ← Int.natCast_ediv]
  congr 1
  unfold shr_u64
  rw [UInt64.toNat_ofNat', Nat.shiftRight_eq_div_pow]
  have h3 : a.toNat / 2 ^ c < 18446744073709551616 := Nat.lt_of_le_of_lt (Nat.div_le_self _ _) hlt
  rw [Nat.mod_eq_of_lt h3]
  rcases Nat.le_total c 64 with h | h
  · rw [Nat.min_eq_left h]
  · rw [Nat.min_eq_right h, Nat.div_eq_of_lt hlt, Nat.div_eq_of_lt]
    exact Nat.lt_of_lt_of_le hlt (Nat.pow_le_pow_right (by omega) h)


theorem eqIn_pn {P : Program} {T el : TypeId} (hT : P.underlying T = some (.pointer el)) (d : Nat) (a : Option Addr) (w : World) : (Op.equalIn (d + 1) T (.pointer a) (.pointer none)).run P w = .ok a.isNone w := by
  cases a <;> simp [Op.equalIn, run_underlying hT]
theorem eqIn_sn {P : Program} {T el : TypeId} (hT : P.underlying T = some (.slice el)) (d : Nat) (A : Option Addr) (l c : Nat) (w : World) : (Op.equalIn (d + 1) T (.slice A l c) (.slice none 0 0)).run P w = .ok A.isNone w := by
  cases A <;> simp [Op.equalIn, run_underlying hT]
theorem run_eq_pn {P : Program} {T el : TypeId} (hT : P.underlying T = some (.pointer el)) (a : Option Addr) (w : World) : (binOp .eql T (.pointer a) (.pointer none)).run P w = .ok (.bool a.isNone) w := by
  simp only [binOp, Op.equal, Op.maxDepth, Sem.run_bind, eqIn_pn hT 9999 a w, Result.andThen_ok]; rfl
theorem run_ne_pn {P : Program} {T el : TypeId} (hT : P.underlying T = some (.pointer el)) (a : Option Addr) (w : World) : (binOp .neq T (.pointer a) (.pointer none)).run P w = .ok (.bool (!a.isNone)) w := by
  simp only [binOp, Op.equal, Op.maxDepth, Sem.run_bind, eqIn_pn hT 9999 a w, Result.andThen_ok]; rfl
theorem run_eq_sn {P : Program} {T el : TypeId} (hT : P.underlying T = some (.slice el)) (A : Option Addr) (l c : Nat) (w : World) : (binOp .eql T (.slice A l c) (.slice none 0 0)).run P w = .ok (.bool A.isNone) w := by
  simp only [binOp, Op.equal, Op.maxDepth, Sem.run_bind, eqIn_sn hT 9999 A l c w, Result.andThen_ok]; rfl
theorem run_ne_sn {P : Program} {T el : TypeId} (hT : P.underlying T = some (.slice el)) (A : Option Addr) (l c : Nat) (w : World) : (binOp .neq T (.slice A l c) (.slice none 0 0)).run P w = .ok (.bool (!A.isNone)) w := by
  simp only [binOp, Op.equal, Op.maxDepth, Sem.run_bind, eqIn_sn hT 9999 A l c w, Result.andThen_ok]; rfl

section
variable {P : Program} {n : Nat} {B : Base} {k : List Kont} {ops : List Oper} {C : Option (Res × Hp)} {need : Nat → Bool} {t : XT} {e : Env} {S : Res} {H : Hp}
variable {i d : Nat} {ty : TypeId} {pos : String} {af : Array Edge} {g : Option (Nat × Bool)} {T T2 : TypeId} {x y : Operand}

theorem q_add_u8 {a b : UInt8} (ho : nth ops i = some ⟨some d, .binOp .add T x y T2, ty, pos, af, g⟩) (hg : gok ops e g = some true) (hx : opv e x = some (.u8 a)) (hy : opv e y = some (.u8 b))
    (hk : XD P n B ops C need k t ((d, .u8 (a + b)) :: e) S H) : XD P n B ops C need k (.q i t) e S H :=
  xbin ho hg hx hy (fun w => by simp [eqGuard]) (fun w => by
    have h1 : IntKind.u8.wrap ((a.toNat : Int) + (b.toNat : Int)) = (((a + b).toNat : Nat) : Int) := by
      rw [show ((a.toNat : Int) + (b.toNat : Int)) = ((a.toNat + b.toNat : Nat) : Int) by push_cast; rfl, wrap_u8, UInt8.toNat_add]
    simp [binOp, SV.val, Op.intArith, h1]) hk

theorem q_mul_u8 {a b : UInt8} (ho : nth ops i = some ⟨some d, .binOp .mul T x y T2, ty, pos, af, g⟩) (hg : gok ops e g = some true) (hx : opv e x = some (.u8 a)) (hy : opv e y = some (.u8 b))
    (hk : XD P n B ops C need k t ((d, .u8 (a * b)) :: e) S H) : XD P n B ops C need k (.q i t) e S H :=
  xbin ho hg hx hy (fun w => by simp [eqGuard]) (fun w => by
    have h1 : IntKind.u8.wrap ((a.toNat : Int) * (b.toNat : Int)) = (((a * b).toNat : Nat) : Int) := by
      rw [show ((a.toNat : Int) * (b.toNat : Int)) = ((a.toNat * b.toNat : Nat) : Int) by push_cast; rfl, wrap_u8, UInt8.toNat_mul]
    simp [binOp, SV.val, Op.intArith, h1]) hk

theorem q_sub_u8 {a b : UInt8} (ho : nth ops i = some ⟨some d, .binOp .sub T x y T2, ty, pos, af, g⟩) (hg : gok ops e g = some true) (hx : opv e x = some (.u8 a)) (hy : opv e y = some (.u8 b))
    (hk : XD P n B ops C need k t ((d, .u8 (a - b)) :: e) S H) : XD P n B ops C need k (.q i t) e S H :=
  xbin ho hg hx hy (fun w => by simp [eqGuard]) (fun w => by
    have h1 : IntKind.u8.wrap ((a.toNat : Int) - (b.toNat : Int)) = (((a - b).toNat : Nat) : Int) := by
      rw [IntKind.wrap_u8, UInt8.toNat_sub]
      have := a.toNat_lt
      have := b.toNat_lt
      omega
    simp [binOp, SV.val, Op.intArith, h1]) hk

theorem q_and_u8 {a b : UInt8} (ho : nth ops i = some ⟨some d, .binOp .and T x y T2, ty, pos, af, g⟩) (hg : gok ops e g = some true) (hx : opv e x = some (.u8 a)) (hy : opv e y = some (.u8 b))
    (hk : XD P n B ops C need k t ((d, .u8 (a &&& b)) :: e) S H) : XD P n B ops C need k (.q i t) e S H :=
  xbin ho hg hx hy (fun w => by simp [eqGuard]) (fun w => by
    have h1 : (BitVec.ofInt IntKind.u8.bits (a.toNat : Int) &&& BitVec.ofInt IntKind.u8.bits (b.toNat : Int)) = (a &&& b).toBitVec := by
      show (BitVec.ofInt 8 (a.toNat : Int) &&& BitVec.ofInt 8 (b.toNat : Int)) = _
      rw [bv_u8, bv_u8]; rfl
    have h2 : IntKind.u8.wrap (((a &&& b).toBitVec.toNat : Nat) : Int) = (((a &&& b).toNat : Nat) : Int) := by
      rw [wrap_u8]
      congr 1
      exact Nat.mod_eq_of_lt (a &&& b).toNat_lt
    simp only [binOp, SV.val, Op.intBits]
    rw [if_neg (by simp), h1]
    exact congrArg (fun z => Result.ok (Value.int _ z) w) h2) hk

theorem q_or_u8 {a b : UInt8} (ho : nth ops i = some ⟨some d, .binOp .or T x y T2, ty, pos, af, g⟩) (hg : gok ops e g = some true) (hx : opv e x = some (.u8 a)) (hy : opv e y = some (.u8 b))
    (hk : XD P n B ops C need k t ((d, .u8 (a ||| b)) :: e) S H) : XD P n B ops C need k (.q i t) e S H :=
  xbin ho hg hx hy (fun w => by simp [eqGuard]) (fun w => by
    have h1 : (BitVec.ofInt IntKind.u8.bits (a.toNat : Int) ||| BitVec.ofInt IntKind.u8.bits (b.toNat : Int)) = (a ||| b).toBitVec := by
      show (BitVec.ofInt 8 (a.toNat : Int) ||| BitVec.ofInt 8 (b.toNat : Int)) = _
      rw [bv_u8, bv_u8]; rfl
    have h2 : IntKind.u8.wrap (((a ||| b).toBitVec.toNat : Nat) : Int) = (((a ||| b).toNat : Nat) : Int) := by
      rw [wrap_u8]
      congr 1
      exact Nat.mod_eq_of_lt (a ||| b).toNat_lt
    simp only [binOp, SV.val, Op.intBits]
    rw [if_neg (by simp), h1]
    exact congrArg (fun z => Result.ok (Value.int _ z) w) h2) hk

theorem q_xor_u8 {a b : UInt8} (ho : nth ops i = some ⟨some d, .binOp .xor T x y T2, ty, pos, af, g⟩) (hg : gok ops e g = some true) (hx : opv e x = some (.u8 a)) (hy : opv e y = some (.u8 b))
    (hk : XD P n B ops C need k t ((d, .u8 (a ^^^ b)) :: e) S H) : XD P n B ops C need k (.q i t) e S H :=
  xbin ho hg hx hy (fun w => by simp [eqGuard]) (fun w => by
    have h1 : (BitVec.ofInt IntKind.u8.bits (a.toNat : Int) ^^^ BitVec.ofInt IntKind.u8.bits (b.toNat : Int)) = (a ^^^ b).toBitVec := by
      show (BitVec.ofInt 8 (a.toNat : Int) ^^^ BitVec.ofInt 8 (b.toNat : Int)) = _
      rw [bv_u8, bv_u8]; rfl
    have h2 : IntKind.u8.wrap (((a ^^^ b).toBitVec.toNat : Nat) : Int) = (((a ^^^ b).toNat : Nat) : Int) := by
      rw [wrap_u8]
      congr 1
      exact Nat.mod_eq_of_lt (a ^^^ b).toNat_lt
    simp only [binOp, SV.val, Op.intBits]
    rw [if_neg (by simp), h1]
    exact congrArg (fun z => Result.ok (Value.int _ z) w) h2) hk

theorem q_shl_u8 {a : UInt8} {c : Int} (ho : nth ops i = some ⟨some d, .binOp .shl T x y T2, ty, pos, af, g⟩) (hg : gok ops e g = some true) (hx : opv e x = some (.u8 a)) (hy : opv e y = some (.i c)) (h0 : 0 ≤ c)
    (hk : XD P n B ops C need k t ((d, .u8 (shl_u8 a c.toNat)) :: e) S H) : XD P n B ops C need k (.q i t) e S H :=
  xbin ho hg hx hy (fun w => by simp [eqGuard]) (fun w => by
    have h1 := shl_val_u8 a c.toNat
    have h2 : ¬ c < 0 := by omega
    simp only [binOp, SV.val, Op.shift, if_neg h2]
    show Sem.run P (pure _) w = _
    simp only [IntKind.bits]
    rw [h1]
    rfl) hk
theorem q_shl_u8u {a : UInt8} {c : UInt64} (ho : nth ops i = some ⟨some d, .binOp .shl T x y T2, ty, pos, af, g⟩) (hg : gok ops e g = some true) (hx : opv e x = some (.u8 a)) (hy : opv e y = some (.u64 c))
    (hk : XD P n B ops C need k t ((d, .u8 (shl_u8 a c.toNat)) :: e) S H) : XD P n B ops C need k (.q i t) e S H :=
  xbin ho hg hx hy (fun w => by simp [eqGuard]) (fun w => by
    have h1 := shl_val_u8 a c.toNat
    have h2 : ¬ ((c.toNat : Int) < 0) := by omega
    simp only [binOp, SV.val, Op.shift, if_neg h2]
    show Sem.run P (pure _) w = _
    simp only [IntKind.bits, Int.toNat_natCast]
    rw [h1]
    rfl) hk

theorem q_shr_u8 {a : UInt8} {c : Int} (ho : nth ops i = some ⟨some d, .binOp .shr T x y T2, ty, pos, af, g⟩) (hg : gok ops e g = some true) (hx : opv e x = some (.u8 a)) (hy : opv e y = some (.i c)) (h0 : 0 ≤ c)
    (hk : XD P n B ops C need k t ((d, .u8 (shr_u8 a c.toNat)) :: e) S H) : XD P n B ops C need k (.q i t) e S H :=
  xbin ho hg hx hy (fun w => by simp [eqGuard]) (fun w => by
    have h1 := shr_val_u8 a c.toNat
    have h2 : ¬ c < 0 := by omega
    simp only [binOp, SV.val, Op.shift, if_neg h2]
    show Sem.run P (pure _) w = _
    simp only [IntKind.bits]
    rw [h1]
    rfl) hk
theorem q_shr_u8u {a : UInt8} {c : UInt64} (ho : nth ops i = some ⟨some d, .binOp .shr T x y T2, ty, pos, af, g⟩) (hg : gok ops e g = some true) (hx : opv e x = some (.u8 a)) (hy : opv e y = some (.u64 c))
    (hk : XD P n B ops C need k t ((d, .u8 (shr_u8 a c.toNat)) :: e) S H) : XD P n B ops C need k (.q i t) e S H :=
  xbin ho hg hx hy (fun w => by simp [eqGuard]) (fun w => by
    have h1 := shr_val_u8 a c.toNat
    have h2 : ¬ ((c.toNat : Int) < 0) := by omega
    simp only [binOp, SV.val, Op.shift, if_neg h2]
    show Sem.run P (pure _) w = _
    simp only [IntKind.bits, Int.toNat_natCast]
    rw [h1]
    rfl) hk

theorem q_lt_u8 {a b : UInt8} (ho : nth ops i = some ⟨some d, .binOp .lss T x y T2, ty, pos, af, g⟩) (hg : gok ops e g = some true) (hx : opv e x = some (.u8 a)) (hy : opv e y = some (.u8 b))
    (hk : XD P n B ops C need k t ((d, .b (decide (a < b))) :: e) S H) : XD P n B ops C need k (.q i t) e S H :=
  xbin ho hg hx hy (fun w => by simp [eqGuard]) (fun w => by simp [binOp, SV.val, Op.intCmp, UInt8.lt_iff_toNat_lt]) hk

theorem q_le_u8 {a b : UInt8} (ho : nth ops i = some ⟨some d, .binOp .leq T x y T2, ty, pos, af, g⟩) (hg : gok ops e g = some true) (hx : opv e x = some (.u8 a)) (hy : opv e y = some (.u8 b))
    (hk : XD P n B ops C need k t ((d, .b (decide (a ≤ b))) :: e) S H) : XD P n B ops C need k (.q i t) e S H :=
  xbin ho hg hx hy (fun w => by simp [eqGuard]) (fun w => by simp [binOp, SV.val, Op.intCmp, UInt8.le_iff_toNat_le]) hk

theorem q_gt_u8 {a b : UInt8} (ho : nth ops i = some ⟨some d, .binOp .gtr T x y T2, ty, pos, af, g⟩) (hg : gok ops e g = some true) (hx : opv e x = some (.u8 a)) (hy : opv e y = some (.u8 b))
    (hk : XD P n B ops C need k t ((d, .b (decide (b < a))) :: e) S H) : XD P n B ops C need k (.q i t) e S H :=
  xbin ho hg hx hy (fun w => by simp [eqGuard]) (fun w => by simp [binOp, SV.val, Op.intCmp, UInt8.lt_iff_toNat_lt]) hk

theorem q_ge_u8 {a b : UInt8} (ho : nth ops i = some ⟨some d, .binOp .geq T x y T2, ty, pos, af, g⟩) (hg : gok ops e g = some true) (hx : opv e x = some (.u8 a)) (hy : opv e y = some (.u8 b))
    (hk : XD P n B ops C need k t ((d, .b (decide (b ≤ a))) :: e) S H) : XD P n B ops C need k (.q i t) e S H :=
  xbin ho hg hx hy (fun w => by simp [eqGuard]) (fun w => by simp [binOp, SV.val, Op.intCmp, UInt8.le_iff_toNat_le]) hk

theorem q_eq_u8 {a b : UInt8} (ho : nth ops i = some ⟨some d, .binOp .eql T x y T2, ty, pos, af, g⟩) (hg : gok ops e g = some true) (hx : opv e x = some (.u8 a)) (hy : opv e y = some (.u8 b))
    (hk : XD P n B ops C need k t ((d, .b (decide (a = b))) :: e) S H) : XD P n B ops C need k (.q i t) e S H :=
  xbin ho hg hx hy (fun w => by simp [eqGuard, SV.val]) (fun w => by
    by_cases h : a = b
    · simp [binOp, SV.val, Op.intCmp, h]
    · have h' : ¬ ((a.toNat : Int) = (b.toNat : Int)) := fun hh => h (UInt8.toNat_inj.1 (by omega))
      have h2 : ((a.toNat : Int) == (b.toNat : Int)) = false := by simpa using h'
      simp only [binOp, SV.val, Op.intCmp, h2]
      simp [h]) hk

theorem q_ne_u8 {a b : UInt8} (ho : nth ops i = some ⟨some d, .binOp .neq T x y T2, ty, pos, af, g⟩) (hg : gok ops e g = some true) (hx : opv e x = some (.u8 a)) (hy : opv e y = some (.u8 b))
    (hk : XD P n B ops C need k t ((d, .b (decide (a ≠ b))) :: e) S H) : XD P n B ops C need k (.q i t) e S H :=
  xbin ho hg hx hy (fun w => by simp [eqGuard, SV.val]) (fun w => by
    by_cases h : a = b
    · simp [binOp, SV.val, Op.intCmp, h]
    · have h' : ¬ ((a.toNat : Int) = (b.toNat : Int)) := fun hh => h (UInt8.toNat_inj.1 (by omega))
      have h3 : ((a.toNat : Int) != (b.toNat : Int)) = true := by simpa using h'
      simp only [binOp, SV.val, Op.intCmp, h3]
      simp [h]) hk

theorem q_quo_u8 {a b : UInt8} (ho : nth ops i = some ⟨some d, .binOp .quo T x y T2, ty, pos, af, g⟩) (hg : gok ops e g = some true) (hx : opv e x = some (.u8 a)) (hy : opv e y = some (.u8 b)) (hb : 0 < b.toNat)
    (hk : XD P n B ops C need k t ((d, .u8 (a / b)) :: e) S H) : XD P n B ops C need k (.q i t) e S H :=
  xbin ho hg hx hy (fun w => by simp [eqGuard]) (fun w => by
    have hv : ¬ ((b.toNat : Int) = 0) := by omega
    have ht : ((a.toNat : Int).tdiv (b.toNat : Int)) = (((a / b).toNat : Nat) : Int) := by
      rw [UInt8.toNat_div]; rfl
    have hw : IntKind.u8.wrap ((((a / b).toNat : Nat)) : Int) = (((a / b).toNat : Nat) : Int) := by
      rw [wrap_u8, Nat.mod_eq_of_lt (a / b).toNat_lt]
    simp only [binOp, SV.val, Op.intDiv, if_neg hv, ht, hw]
    rfl) hk
theorem q_rem_u8 {a b : UInt8} (ho : nth ops i = some ⟨some d, .binOp .rem T x y T2, ty, pos, af, g⟩) (hg : gok ops e g = some true) (hx : opv e x = some (.u8 a)) (hy : opv e y = some (.u8 b)) (hb : 0 < b.toNat)
    (hk : XD P n B ops C need k t ((d, .u8 (a % b)) :: e) S H) : XD P n B ops C need k (.q i t) e S H :=
  xbin ho hg hx hy (fun w => by simp [eqGuard]) (fun w => by
    have hv : ¬ ((b.toNat : Int) = 0) := by omega
    have ht : ((a.toNat : Int).tmod (b.toNat : Int)) = (((a % b).toNat : Nat) : Int) := by
      rw [UInt8.toNat_mod]; rfl
    simp only [binOp, SV.val, Op.intDiv, if_neg hv, ht]
    rfl) hk

theorem q_add_u32 {a b : UInt32} (ho : nth ops i = some ⟨some d, .binOp .add T x y T2, ty, pos, af, g⟩) (hg : gok ops e g = some true) (hx : opv e x = some (.u32 a)) (hy : opv e y = some (.u32 b))
    (hk : XD P n B ops C need k t ((d, .u32 (a + b)) :: e) S H) : XD P n B ops C need k (.q i t) e S H :=
  xbin ho hg hx hy (fun w => by simp [eqGuard]) (fun w => by
    have h1 : IntKind.u32.wrap ((a.toNat : Int) + (b.toNat : Int)) = (((a + b).toNat : Nat) : Int) := by
      rw [show ((a.toNat : Int) + (b.toNat : Int)) = ((a.toNat + b.toNat : Nat) : Int) by push_cast; rfl, wrap_u32, UInt32.toNat_add]
    simp [binOp, SV.val, Op.intArith, h1]) hk

theorem q_mul_u32 {a b : UInt32} (ho : nth ops i = some ⟨some d, .binOp .mul T x y T2, ty, pos, af, g⟩) (hg : gok ops e g = some true) (hx : opv e x = some (.u32 a)) (hy : opv e y = some (.u32 b))
    (hk : XD P n B ops C need k t ((d, .u32 (a * b)) :: e) S H) : XD P n B ops C need k (.q i t) e S H :=
  xbin ho hg hx hy (fun w => by simp [eqGuard]) (fun w => by
    have h1 : IntKind.u32.wrap ((a.toNat : Int) * (b.toNat : Int)) = (((a * b).toNat : Nat) : Int) := by
      rw [show ((a.toNat : Int) * (b.toNat : Int)) = ((a.toNat * b.toNat : Nat) : Int) by push_cast; rfl, wrap_u32, UInt32.toNat_mul]
    simp [binOp, SV.val, Op.intArith, h1]) hk

theorem q_sub_u32 {a b : UInt32} (ho : nth ops i = some ⟨some d, .binOp .sub T x y T2, ty, pos, af, g⟩) (hg : gok ops e g = some true) (hx : opv e x = some (.u32 a)) (hy : opv e y = some (.u32 b))
    (hk : XD P n B ops C need k t ((d, .u32 (a - b)) :: e) S H) : XD P n B ops C need k (.q i t) e S H :=
  xbin ho hg hx hy (fun w => by simp [eqGuard]) (fun w => by
    have h1 : IntKind.u32.wrap ((a.toNat : Int) - (b.toNat : Int)) = (((a - b).toNat : Nat) : Int) := by
      rw [IntKind.wrap_u32, UInt32.toNat_sub]
      have := a.toNat_lt
      have := b.toNat_lt
      omega
    simp [binOp, SV.val, Op.intArith, h1]) hk

theorem q_and_u32 {a b : UInt32} (ho : nth ops i = some ⟨some d, .binOp .and T x y T2, ty, pos, af, g⟩) (hg : gok ops e g = some true) (hx : opv e x = some (.u32 a)) (hy : opv e y = some (.u32 b))
    (hk : XD P n B ops C need k t ((d, .u32 (a &&& b)) :: e) S H) : XD P n B ops C need k (.q i t) e S H :=
  xbin ho hg hx hy (fun w => by simp [eqGuard]) (fun w => by
    have h1 : (BitVec.ofInt IntKind.u32.bits (a.toNat : Int) &&& BitVec.ofInt IntKind.u32.bits (b.toNat : Int)) = (a &&& b).toBitVec := by
      show (BitVec.ofInt 32 (a.toNat : Int) &&& BitVec.ofInt 32 (b.toNat : Int)) = _
      rw [bv_u32, bv_u32]; rfl
    have h2 : IntKind.u32.wrap (((a &&& b).toBitVec.toNat : Nat) : Int) = (((a &&& b).toNat : Nat) : Int) := by
      rw [wrap_u32]
      congr 1
      exact Nat.mod_eq_of_lt (a &&& b).toNat_lt
    simp only [binOp, SV.val, Op.intBits]
    rw [if_neg (by simp), h1]
    exact congrArg (fun z => Result.ok (Value.int _ z) w) h2) hk

theorem q_or_u32 {a b : UInt32} (ho : nth ops i = some ⟨some d, .binOp .or T x y T2, ty, pos, af, g⟩) (hg : gok ops e g = some true) (hx : opv e x = some (.u32 a)) (hy : opv e y = some (.u32 b))
    (hk : XD P n B ops C need k t ((d, .u32 (a ||| b)) :: e) S H) : XD P n B ops C need k (.q i t) e S H :=
  xbin ho hg hx hy (fun w => by simp [eqGuard]) (fun w => by
    have h1 : (BitVec.ofInt IntKind.u32.bits (a.toNat : Int) ||| BitVec.ofInt IntKind.u32.bits (b.toNat : Int)) = (a ||| b).toBitVec := by
      show (BitVec.ofInt 32 (a.toNat : Int) ||| BitVec.ofInt 32 (b.toNat : Int)) = _
      rw [bv_u32, bv_u32]; rfl
    have h2 : IntKind.u32.wrap (((a ||| b).toBitVec.toNat : Nat) : Int) = (((a ||| b).toNat : Nat) : Int) := by
      rw [wrap_u32]
      congr 1
      exact Nat.mod_eq_of_lt (a ||| b).toNat_lt
    simp only [binOp, SV.val, Op.intBits]
    rw [if_neg (by simp), h1]
    exact congrArg (fun z => Result.ok (Value.int _ z) w) h2) hk

theorem q_xor_u32 {a b : UInt32} (ho : nth ops i = some ⟨some d, .binOp .xor T x y T2, ty, pos, af, g⟩) (hg : gok ops e g = some true) (hx : opv e x = some (.u32 a)) (hy : opv e y = some (.u32 b))
    (hk : XD P n B ops C need k t ((d, .u32 (a ^^^ b)) :: e) S H) : XD P n B ops C need k (.q i t) e S H :=
  xbin ho hg hx hy (fun w => by simp [eqGuard]) (fun w => by
    have h1 : (BitVec.ofInt IntKind.u32.bits (a.toNat : Int) ^^^ BitVec.ofInt IntKind.u32.bits (b.toNat : Int)) = (a ^^^ b).toBitVec := by
      show (BitVec.ofInt 32 (a.toNat : Int) ^^^ BitVec.ofInt 32 (b.toNat : Int)) = _
      rw [bv_u32, bv_u32]; rfl
    have h2 : IntKind.u32.wrap (((a ^^^ b).toBitVec.toNat : Nat) : Int) = (((a ^^^ b).toNat : Nat) : Int) := by
      rw [wrap_u32]
      congr 1
      exact Nat.mod_eq_of_lt (a ^^^ b).toNat_lt
    simp only [binOp, SV.val, Op.intBits]
    rw [if_neg (by simp), h1]
    exact congrArg (fun z => Result.ok (Value.int _ z) w) h2) hk

theorem q_shl_u32 {a : UInt32} {c : Int} (ho : nth ops i = some ⟨some d, .binOp .shl T x y T2, ty, pos, af, g⟩) (hg : gok ops e g = some true) (hx : opv e x = some (.u32 a)) (hy : opv e y = some (.i c)) (h0 : 0 ≤ c)
    (hk : XD P n B ops C need k t ((d, .u32 (shl_u32 a c.toNat)) :: e) S H) : XD P n B ops C need k (.q i t) e S H :=
  xbin ho hg hx hy (fun w => by simp [eqGuard]) (fun w => by
    have h1 := shl_val_u32 a c.toNat
    have h2 : ¬ c < 0 := by omega
    simp only [binOp, SV.val, Op.shift, if_neg h2]
    show Sem.run P (pure _) w = _
    simp only [IntKind.bits]
    rw [h1]
    rfl) hk
theorem q_shl_u32u {a : UInt32} {c : UInt64} (ho : nth ops i = some ⟨some d, .binOp .shl T x y T2, ty, pos, af, g⟩) (hg : gok ops e g = some true) (hx : opv e x = some (.u32 a)) (hy : opv e y = some (.u64 c))
    (hk : XD P n B ops C need k t ((d, .u32 (shl_u32 a c.toNat)) :: e) S H) : XD P n B ops C need k (.q i t) e S H :=
  xbin ho hg hx hy (fun w => by simp [eqGuard]) (fun w => by
    have h1 := shl_val_u32 a c.toNat
    have h2 : ¬ ((c.toNat : Int) < 0) := by omega
    simp only [binOp, SV.val, Op.shift, if_neg h2]
    show Sem.run P (pure _) w = _
    simp only [IntKind.bits, Int.toNat_natCast]
    rw [h1]
    rfl) hk

theorem q_shr_u32 {a : UInt32} {c : Int} (ho : nth ops i = some ⟨some d, .binOp .shr T x y T2, ty, pos, af, g⟩) (hg : gok ops e g = some true) (hx : opv e x = some (.u32 a)) (hy : opv e y = some (.i c)) (h0 : 0 ≤ c)
    (hk : XD P n B ops C need k t ((d, .u32 (shr_u32 a c.toNat)) :: e) S H) : XD P n B ops C need k (.q i t) e S H :=
  xbin ho hg hx hy (fun w => by simp [eqGuard]) (fun w => by
    have h1 := shr_val_u32 a c.toNat
    have h2 : ¬ c < 0 := by omega
    simp only [binOp, SV.val, Op.shift, if_neg h2]
    show Sem.run P (pure _) w = _
    simp only [IntKind.bits]
    rw [h1]
    rfl) hk
theorem q_shr_u32u {a : UInt32} {c : UInt64} (ho : nth ops i = some ⟨some d, .binOp .shr T x y T2, ty, pos, af, g⟩) (hg : gok ops e g = some true) (hx : opv e x = some (.u32 a)) (hy : opv e y = some (.u64 c))
    (hk : XD P n B ops C need k t ((d, .u32 (shr_u32 a c.toNat)) :: e) S H) : XD P n B ops C need k (.q i t) e S H :=
  xbin ho hg hx hy (fun w => by simp [eqGuard]) (fun w => by
    have h1 := shr_val_u32 a c.toNat
    have h2 : ¬ ((c.toNat : Int) < 0) := by omega
    simp only [binOp, SV.val, Op.shift, if_neg h2]
    show Sem.run P (pure _) w = _
    simp only [IntKind.bits, Int.toNat_natCast]
    rw [h1]
    rfl) hk

theorem q_lt_u32 {a b : UInt32} (ho : nth ops i = some ⟨some d, .binOp .lss T x y T2, ty, pos, af, g⟩) (hg : gok ops e g = some true) (hx : opv e x = some (.u32 a)) (hy : opv e y = some (.u32 b))
    (hk : XD P n B ops C need k t ((d, .b (decide (a < b))) :: e) S H) : XD P n B ops C need k (.q i t) e S H :=
  xbin ho hg hx hy (fun w => by simp [eqGuard]) (fun w => by simp [binOp, SV.val, Op.intCmp, UInt32.lt_iff_toNat_lt]) hk

theorem q_le_u32 {a b : UInt32} (ho : nth ops i = some ⟨some d, .binOp .leq T x y T2, ty, pos, af, g⟩) (hg : gok ops e g = some true) (hx : opv e x = some (.u32 a)) (hy : opv e y = some (.u32 b))
    (hk : XD P n B ops C need k t ((d, .b (decide (a ≤ b))) :: e) S H) : XD P n B ops C need k (.q i t) e S H :=
  xbin ho hg hx hy (fun w => by simp [eqGuard]) (fun w => by simp [binOp, SV.val, Op.intCmp, UInt32.le_iff_toNat_le]) hk

theorem q_gt_u32 {a b : UInt32} (ho : nth ops i = some ⟨some d, .binOp .gtr T x y T2, ty, pos, af, g⟩) (hg : gok ops e g = some true) (hx : opv e x = some (.u32 a)) (hy : opv e y = some (.u32 b))
    (hk : XD P n B ops C need k t ((d, .b (decide (b < a))) :: e) S H) : XD P n B ops C need k (.q i t) e S H :=
  xbin ho hg hx hy (fun w => by simp [eqGuard]) (fun w => by simp [binOp, SV.val, Op.intCmp, UInt32.lt_iff_toNat_lt]) hk

theorem q_ge_u32 {a b : UInt32} (ho : nth ops i = some ⟨some d, .binOp .geq T x y T2, ty, pos, af, g⟩) (hg : gok ops e g = some true) (hx : opv e x = some (.u32 a)) (hy : opv e y = some (.u32 b))
    (hk : XD P n B ops C need k t ((d, .b (decide (b ≤ a))) :: e) S H) : XD P n B ops C need k (.q i t) e S H :=
  xbin ho hg hx hy (fun w => by simp [eqGuard]) (fun w => by simp [binOp, SV.val, Op.intCmp, UInt32.le_iff_toNat_le]) hk

theorem q_eq_u32 {a b : UInt32} (ho : nth ops i = some ⟨some d, .binOp .eql T x y T2, ty, pos, af, g⟩) (hg : gok ops e g = some true) (hx : opv e x = some (.u32 a)) (hy : opv e y = some (.u32 b))
    (hk : XD P n B ops C need k t ((d, .b (decide (a = b))) :: e) S H) : XD P n B ops C need k (.q i t) e S H :=
  xbin ho hg hx hy (fun w => by simp [eqGuard, SV.val]) (fun w => by
    by_cases h : a = b
    · simp [binOp, SV.val, Op.intCmp, h]
    · have h' : ¬ ((a.toNat : Int) = (b.toNat : Int)) := fun hh => h (UInt32.toNat_inj.1 (by omega))
      have h2 : ((a.toNat : Int) == (b.toNat : Int)) = false := by simpa using h'
      simp only [binOp, SV.val, Op.intCmp, h2]
      simp [h]) hk

theorem q_ne_u32 {a b : UInt32} (ho : nth ops i = some ⟨some d, .binOp .neq T x y T2, ty, pos, af, g⟩) (hg : gok ops e g = some true) (hx : opv e x = some (.u32 a)) (hy : opv e y = some (.u32 b))
    (hk : XD P n B ops C need k t ((d, .b (decide (a ≠ b))) :: e) S H) : XD P n B ops C need k (.q i t) e S H :=
  xbin ho hg hx hy (fun w => by simp [eqGuard, SV.val]) (fun w => by
    by_cases h : a = b
    · simp [binOp, SV.val, Op.intCmp, h]
    · have h' : ¬ ((a.toNat : Int) = (b.toNat : Int)) := fun hh => h (UInt32.toNat_inj.1 (by omega))
      have h3 : ((a.toNat : Int) != (b.toNat : Int)) = true := by simpa using h'
      simp only [binOp, SV.val, Op.intCmp, h3]
      simp [h]) hk

theorem q_quo_u32 {a b : UInt32} (ho : nth ops i = some ⟨some d, .binOp .quo T x y T2, ty, pos, af, g⟩) (hg : gok ops e g = some true) (hx : opv e x = some (.u32 a)) (hy : opv e y = some (.u32 b)) (hb : 0 < b.toNat)
    (hk : XD P n B ops C need k t ((d, .u32 (a / b)) :: e) S H) : XD P n B ops C need k (.q i t) e S H :=
  xbin ho hg hx hy (fun w => by simp [eqGuard]) (fun w => by
    have hv : ¬ ((b.toNat : Int) = 0) := by omega
    have ht : ((a.toNat : Int).tdiv (b.toNat : Int)) = (((a / b).toNat : Nat) : Int) := by
      rw [UInt32.toNat_div]; rfl
    have hw : IntKind.u32.wrap ((((a / b).toNat : Nat)) : Int) = (((a / b).toNat : Nat) : Int) := by
      rw [wrap_u32, Nat.mod_eq_of_lt (a / b).toNat_lt]
    simp only [binOp, SV.val, Op.intDiv, if_neg hv, ht, hw]
    rfl) hk
theorem q_rem_u32 {a b : UInt32} (ho : nth ops i = some ⟨some d, .binOp .rem T x y T2, ty, pos, af, g⟩) (hg : gok ops e g = some true) (hx : opv e x = some (.u32 a)) (hy : opv e y = some (.u32 b)) (hb : 0 < b.toNat)
    (hk : XD P n B ops C need k t ((d, .u32 (a % b)) :: e) S H) : XD P n B ops C need k (.q i t) e S H :=
  xbin ho hg hx hy (fun w => by simp [eqGuard]) (fun w => by
    have hv : ¬ ((b.toNat : Int) = 0) := by omega
    have ht : ((a.toNat : Int).tmod (b.toNat : Int)) = (((a % b).toNat : Nat) : Int) := by
      rw [UInt32.toNat_mod]; rfl
    simp only [binOp, SV.val, Op.intDiv, if_neg hv, ht]
    rfl) hk

theorem q_add_u64 {a b : UInt64} (ho : nth ops i = some ⟨some d, .binOp .add T x y T2, ty, pos, af, g⟩) (hg : gok ops e g = some true) (hx : opv e x = some (.u64 a)) (hy : opv e y = some (.u64 b))
    (hk : XD P n B ops C need k t ((d, .u64 (a + b)) :: e) S H) : XD P n B ops C need k (.q i t) e S H :=
  xbin ho hg hx hy (fun w => by simp [eqGuard]) (fun w => by
    have h1 : IntKind.u64.wrap ((a.toNat : Int) + (b.toNat : Int)) = (((a + b).toNat : Nat) : Int) := by
      rw [show ((a.toNat : Int) + (b.toNat : Int)) = ((a.toNat + b.toNat : Nat) : Int) by push_cast; rfl, wrap_u64, UInt64.toNat_add]
    simp [binOp, SV.val, Op.intArith, h1]) hk

theorem q_mul_u64 {a b : UInt64} (ho : nth ops i = some ⟨some d, .binOp .mul T x y T2, ty, pos, af, g⟩) (hg : gok ops e g = some true) (hx : opv e x = some (.u64 a)) (hy : opv e y = some (.u64 b))
    (hk : XD P n B ops C need k t ((d, .u64 (a * b)) :: e) S H) : XD P n B ops C need k (.q i t) e S H :=
  xbin ho hg hx hy (fun w => by simp [eqGuard]) (fun w => by
    have h1 : IntKind.u64.wrap ((a.toNat : Int) * (b.toNat : Int)) = (((a * b).toNat : Nat) : Int) := by
      rw [show ((a.toNat : Int) * (b.toNat : Int)) = ((a.toNat * b.toNat : Nat) : Int) by push_cast; rfl, wrap_u64, UInt64.toNat_mul]
    simp [binOp, SV.val, Op.intArith, h1]) hk

theorem q_sub_u64 {a b : UInt64} (ho : nth ops i = some ⟨some d, .binOp .sub T x y T2, ty, pos, af, g⟩) (hg : gok ops e g = some true) (hx : opv e x = some (.u64 a)) (hy : opv e y = some (.u64 b))
    (hk : XD P n B ops C need k t ((d, .u64 (a - b)) :: e) S H) : XD P n B ops C need k (.q i t) e S H :=
  xbin ho hg hx hy (fun w => by simp [eqGuard]) (fun w => by
    have h1 : IntKind.u64.wrap ((a.toNat : Int) - (b.toNat : Int)) = (((a - b).toNat : Nat) : Int) := by
      rw [IntKind.wrap_u64, UInt64.toNat_sub]
      have := a.toNat_lt
      have := b.toNat_lt
      omega
    simp [binOp, SV.val, Op.intArith, h1]) hk

theorem q_and_u64 {a b : UInt64} (ho : nth ops i = some ⟨some d, .binOp .and T x y T2, ty, pos, af, g⟩) (hg : gok ops e g = some true) (hx : opv e x = some (.u64 a)) (hy : opv e y = some (.u64 b))
    (hk : XD P n B ops C need k t ((d, .u64 (a &&& b)) :: e) S H) : XD P n B ops C need k (.q i t) e S H :=
  xbin ho hg hx hy (fun w => by simp [eqGuard]) (fun w => by
    have h1 : (BitVec.ofInt IntKind.u64.bits (a.toNat : Int) &&& BitVec.ofInt IntKind.u64.bits (b.toNat : Int)) = (a &&& b).toBitVec := by
      show (BitVec.ofInt 64 (a.toNat : Int) &&& BitVec.ofInt 64 (b.toNat : Int)) = _
      rw [bv_u64, bv_u64]; rfl
    have h2 : IntKind.u64.wrap (((a &&& b).toBitVec.toNat : Nat) : Int) = (((a &&& b).toNat : Nat) : Int) := by
      rw [wrap_u64]
      congr 1
      exact Nat.mod_eq_of_lt (a &&& b).toNat_lt
    simp only [binOp, SV.val, Op.intBits]
    rw [if_neg (by simp), h1]
    exact congrArg (fun z => Result.ok (Value.int _ z) w) h2) hk

theorem q_or_u64 {a b : UInt64} (ho : nth ops i = some ⟨some d, .binOp .or T x y T2, ty, pos, af, g⟩) (hg : gok ops e g = some true) (hx : opv e x = some (.u64 a)) (hy : opv e y = some (.u64 b))
    (hk : XD P n B ops C need k t ((d, .u64 (a ||| b)) :: e) S H) : XD P n B ops C need k (.q i t) e S H :=
  xbin ho hg hx hy (fun w => by simp [eqGuard]) (fun w => by
    have h1 : (BitVec.ofInt IntKind.u64.bits (a.toNat : Int) ||| BitVec.ofInt IntKind.u64.bits (b.toNat : Int)) = (a ||| b).toBitVec := by
      show (BitVec.ofInt 64 (a.toNat : Int) ||| BitVec.ofInt 64 (b.toNat : Int)) = _
      rw [bv_u64, bv_u64]; rfl
    have h2 : IntKind.u64.wrap (((a ||| b).toBitVec.toNat : Nat) : Int) = (((a ||| b).toNat : Nat) : Int) := by
      rw [wrap_u64]
      congr 1
      exact Nat.mod_eq_of_lt (a ||| b).toNat_lt
    simp only [binOp, SV.val, Op.intBits]
    rw [if_neg (by simp), h1]
    exact congrArg (fun z => Result.ok (Value.int _ z) w) h2) hk

theorem q_xor_u64 {a b : UInt64} (ho : nth ops i = some ⟨some d, .binOp .xor T x y T2, ty, pos, af, g⟩) (hg : gok ops e g = some true) (hx : opv e x = some (.u64 a)) (hy : opv e y = some (.u64 b))
    (hk : XD P n B ops C need k t ((d, .u64 (a ^^^ b)) :: e) S H) : XD P n B ops C need k (.q i t) e S H :=
  xbin ho hg hx hy (fun w => by simp [eqGuard]) (fun w => by
    have h1 : (BitVec.ofInt IntKind.u64.bits (a.toNat : Int) ^^^ BitVec.ofInt IntKind.u64.bits (b.toNat : Int)) = (a ^^^ b).toBitVec := by
      show (BitVec.ofInt 64 (a.toNat : Int) ^^^ BitVec.ofInt 64 (b.toNat : Int)) = _
      rw [bv_u64, bv_u64]; rfl
    have h2 : IntKind.u64.wrap (((a ^^^ b).toBitVec.toNat : Nat) : Int) = (((a ^^^ b).toNat : Nat) : Int) := by
      rw [wrap_u64]
      congr 1
      exact Nat.mod_eq_of_lt (a ^^^ b).toNat_lt
    simp only [binOp, SV.val, Op.intBits]
    rw [if_neg (by simp), h1]
    exact congrArg (fun z => Result.ok (Value.int _ z) w) h2) hk

theorem q_shl_u64 {a : UInt64} {c : Int} (ho : nth ops i = some ⟨some d, .binOp .shl T x y T2, ty, pos, af, g⟩) (hg : gok ops e g = some true) (hx : opv e x = some (.u64 a)) (hy : opv e y = some (.i c)) (h0 : 0 ≤ c)
    (hk : XD P n B ops C need k t ((d, .u64 (shl_u64 a c.toNat)) :: e) S H) : XD P n B ops C need k (.q i t) e S H :=
  xbin ho hg hx hy (fun w => by simp [eqGuard]) (fun w => by
    have h1 := shl_val_u64 a c.toNat
    have h2 : ¬ c < 0 := by omega
    simp only [binOp, SV.val, Op.shift, if_neg h2]
    show Sem.run P (pure _) w = _
    simp only [IntKind.bits]
    rw [h1]
    rfl) hk
theorem q_shl_u64u {a : UInt64} {c : UInt64} (ho : nth ops i = some ⟨some d, .binOp .shl T x y T2, ty, pos, af, g⟩) (hg : gok ops e g = some true) (hx : opv e x = some (.u64 a)) (hy : opv e y = some (.u64 c))
    (hk : XD P n B ops C need k t ((d, .u64 (shl_u64 a c.toNat)) :: e) S H) : XD P n B ops C need k (.q i t) e S H :=
  xbin ho hg hx hy (fun w => by simp [eqGuard]) (fun w => by
    have h1 := shl_val_u64 a c.toNat
    have h2 : ¬ ((c.toNat : Int) < 0) := by omega
    simp only [binOp, SV.val, Op.shift, if_neg h2]
    show Sem.run P (pure _) w = _
    simp only [IntKind.bits, Int.toNat_natCast]
    rw [h1]
    rfl) hk

theorem q_shr_u64 {a : UInt64} {c : Int} (ho : nth ops i = some ⟨some d, .binOp .shr T x y T2, ty, pos, af, g⟩) (hg : gok ops e g = some true) (hx : opv e x = some (.u64 a)) (hy : opv e y = some (.i c)) (h0 : 0 ≤ c)
    (hk : XD P n B ops C need k t ((d, .u64 (shr_u64 a c.toNat)) :: e) S H) : XD P n B ops C need k (.q i t) e S H :=
  xbin ho hg hx hy (fun w => by simp [eqGuard]) (fun w => by
    have h1 := shr_val_u64 a c.toNat
    have h2 : ¬ c < 0 := by omega
    simp only [binOp, SV.val, Op.shift, if_neg h2]
    show Sem.run P (pure _) w = _
    simp only [IntKind.bits]
    rw [h1]
    rfl) hk
theorem q_shr_u64u {a : UInt64} {c : UInt64} (ho : nth ops i = some ⟨some d, .binOp .shr T x y T2, ty, pos, af, g⟩) (hg : gok ops e g = some true) (hx : opv e x = some (.u64 a)) (hy : opv e y = some (.u64 c))
    (hk : XD P n B ops C need k t ((d, .u64 (shr_u64 a c.toNat)) :: e) S H) : XD P n B ops C need k (.q i t) e S H :=
  xbin ho hg hx hy (fun w => by simp [eqGuard]) (fun w => by
    have h1 := shr_val_u64 a c.toNat
    have h2 : ¬ ((c.toNat : Int) < 0) := by omega
    simp only [binOp, SV.val, Op.shift, if_neg h2]
    show Sem.run P (pure _) w = _
    simp only [IntKind.bits, Int.toNat_natCast]
    rw [h1]
    rfl) hk

theorem q_lt_u64 {a b : UInt64} (ho : nth ops i = some ⟨some d, .binOp .lss T x y T2, ty, pos, af, g⟩) (hg : gok ops e g = some true) (hx : opv e x = some (.u64 a)) (hy : opv e y = some (.u64 b))
    (hk : XD P n B ops C need k t ((d, .b (decide (a < b))) :: e) S H) : XD P n B ops C need k (.q i t) e S H :=
  xbin ho hg hx hy (fun w => by simp [eqGuard]) (fun w => by simp [binOp, SV.val, Op.intCmp, UInt64.lt_iff_toNat_lt]) hk

theorem q_le_u64 {a b : UInt64} (ho : nth ops i = some ⟨some d, .binOp .leq T x y T2, ty, pos, af, g⟩) (hg : gok ops e g = some true) (hx : opv e x = some (.u64 a)) (hy : opv e y = some (.u64 b))
    (hk : XD P n B ops C need k t ((d, .b (decide (a ≤ b))) :: e) S H) : XD P n B ops C need k (.q i t) e S H :=
  xbin ho hg hx hy (fun w => by simp [eqGuard]) (fun w => by simp [binOp, SV.val, Op.intCmp, UInt64.le_iff_toNat_le]) hk

theorem q_gt_u64 {a b : UInt64} (ho : nth ops i = some ⟨some d, .binOp .gtr T x y T2, ty, pos, af, g⟩) (hg : gok ops e g = some true) (hx : opv e x = some (.u64 a)) (hy : opv e y = some (.u64 b))
    (hk : XD P n B ops C need k t ((d, .b (decide (b < a))) :: e) S H) : XD P n B ops C need k (.q i t) e S H :=
  xbin ho hg hx hy (fun w => by simp [eqGuard]) (fun w => by simp [binOp, SV.val, Op.intCmp, UInt64.lt_iff_toNat_lt]) hk

theorem q_ge_u64 {a b : UInt64} (ho : nth ops i = some ⟨some d, .binOp .geq T x y T2, ty, pos, af, g⟩) (hg : gok ops e g = some true) (hx : opv e x = some (.u64 a)) (hy : opv e y = some (.u64 b))
    (hk : XD P n B ops C need k t ((d, .b (decide (b ≤ a))) :: e) S H) : XD P n B ops C need k (.q i t) e S H :=
  xbin ho hg hx hy (fun w => by simp [eqGuard]) (fun w => by simp [binOp, SV.val, Op.intCmp, UInt64.le_iff_toNat_le]) hk

theorem q_eq_u64 {a b : UInt64} (ho : nth ops i = some ⟨some d, .binOp .eql T x y T2, ty, pos, af, g⟩) (hg : gok ops e g = some true) (hx : opv e x = some (.u64 a)) (hy : opv e y = some (.u64 b))
    (hk : XD P n B ops C need k t ((d, .b (decide (a = b))) :: e) S H) : XD P n B ops C need k (.q i t) e S H :=
  xbin ho hg hx hy (fun w => by simp [eqGuard, SV.val]) (fun w => by
    by_cases h : a = b
    · simp [binOp, SV.val, Op.intCmp, h]
    · have h' : ¬ ((a.toNat : Int) = (b.toNat : Int)) := fun hh => h (UInt64.toNat_inj.1 (by omega))
      have h2 : ((a.toNat : Int) == (b.toNat : Int)) = false := by simpa using h'
      simp only [binOp, SV.val, Op.intCmp, h2]
      simp [h]) hk

theorem q_ne_u64 {a b : UInt64} (ho : nth ops i = some ⟨some d, .binOp .neq T x y T2, ty, pos, af, g⟩) (hg : gok ops e g = some true) (hx : opv e x = some (.u64 a)) (hy : opv e y = some (.u64 b))
    (hk : XD P n B ops C need k t ((d, .b (decide (a ≠ b))) :: e) S H) : XD P n B ops C need k (.q i t) e S H :=
  xbin ho hg hx hy (fun w => by simp [eqGuard, SV.val]) (fun w => by
    by_cases h : a = b
    · simp [binOp, SV.val, Op.intCmp, h]
    · have h' : ¬ ((a.toNat : Int) = (b.toNat : Int)) := fun hh => h (UInt64.toNat_inj.1 (by omega))
      have h3 : ((a.toNat : Int) != (b.toNat : Int)) = true := by simpa using h'
      simp only [binOp, SV.val, Op.intCmp, h3]
      simp [h]) hk

theorem q_quo_u64 {a b : UInt64} (ho : nth ops i = some ⟨some d, .binOp .quo T x y T2, ty, pos, af, g⟩) (hg : gok ops e g = some true) (hx : opv e x = some (.u64 a)) (hy : opv e y = some (.u64 b)) (hb : 0 < b.toNat)
    (hk : XD P n B ops C need k t ((d, .u64 (a / b)) :: e) S H) : XD P n B ops C need k (.q i t) e S H :=
  xbin ho hg hx hy (fun w => by simp [eqGuard]) (fun w => by
    have hv : ¬ ((b.toNat : Int) = 0) := by omega
    have ht : ((a.toNat : Int).tdiv (b.toNat : Int)) = (((a / b).toNat : Nat) : Int) := by
      rw [UInt64.toNat_div]; rfl
    have hw : IntKind.u64.wrap ((((a / b).toNat : Nat)) : Int) = (((a / b).toNat : Nat) : Int) := by
      rw [wrap_u64, Nat.mod_eq_of_lt (a / b).toNat_lt]
    simp only [binOp, SV.val, Op.intDiv, if_neg hv, ht, hw]
    rfl) hk
theorem q_rem_u64 {a b : UInt64} (ho : nth ops i = some ⟨some d, .binOp .rem T x y T2, ty, pos, af, g⟩) (hg : gok ops e g = some true) (hx : opv e x = some (.u64 a)) (hy : opv e y = some (.u64 b)) (hb : 0 < b.toNat)
    (hk : XD P n B ops C need k t ((d, .u64 (a % b)) :: e) S H) : XD P n B ops C need k (.q i t) e S H :=
  xbin ho hg hx hy (fun w => by simp [eqGuard]) (fun w => by
    have hv : ¬ ((b.toNat : Int) = 0) := by omega
    have ht : ((a.toNat : Int).tmod (b.toNat : Int)) = (((a % b).toNat : Nat) : Int) := by
      rw [UInt64.toNat_mod]; rfl
    simp only [binOp, SV.val, Op.intDiv, if_neg hv, ht]
    rfl) hk

theorem q_cv_i_u8 {v : Int} (hT : P.underlying T2 = some (.int .u8)) (hS : (P.underlying T).isSome = true) (ho : nth ops i = some ⟨some d, .convert T T2 x, ty, pos, af, g⟩) (hg : gok ops e g = some true) (hx : opv e x = some (.i v)) (h0 : 0 ≤ v)
    (hk : XD P n B ops C need k t ((d, .u8 (UInt8.ofNat v.toNat)) :: e) S H) : XD P n B ops C need k (.q i t) e S H :=
  xqq ho hg (fun a' w' he _ => by
    obtain ⟨ds, hds⟩ := Option.isSome_iff_exists.1 hS
    have h1 : IntKind.u8.wrap (v : Int) = ((UInt8.ofNat v.toNat).toNat : Int) := by rw [IntKind.wrap_u8, UInt8.toNat_ofNat']; omega
    simp only [execOp, he.opv hx, SV.val]
    simp [convert, run_underlying hT, run_underlying hds, Conv.intToInt, h1]) hk

theorem q_cv_i_u16 {v : Int} (hT : P.underlying T2 = some (.int .u16)) (hS : (P.underlying T).isSome = true) (ho : nth ops i = some ⟨some d, .convert T T2 x, ty, pos, af, g⟩) (hg : gok ops e g = some true) (hx : opv e x = some (.i v)) (h0 : 0 ≤ v)
    (hk : XD P n B ops C need k t ((d, .u16 (UInt16.ofNat v.toNat)) :: e) S H) : XD P n B ops C need k (.q i t) e S H :=
  xqq ho hg (fun a' w' he _ => by
    obtain ⟨ds, hds⟩ := Option.isSome_iff_exists.1 hS
    have h1 : IntKind.u16.wrap (v : Int) = ((UInt16.ofNat v.toNat).toNat : Int) := by rw [IntKind.wrap_u16, UInt16.toNat_ofNat']; omega
    simp only [execOp, he.opv hx, SV.val]
    simp [convert, run_underlying hT, run_underlying hds, Conv.intToInt, h1]) hk

theorem q_cv_i_u32 {v : Int} (hT : P.underlying T2 = some (.int .u32)) (hS : (P.underlying T).isSome = true) (ho : nth ops i = some ⟨some d, .convert T T2 x, ty, pos, af, g⟩) (hg : gok ops e g = some true) (hx : opv e x = some (.i v)) (h0 : 0 ≤ v)
    (hk : XD P n B ops C need k t ((d, .u32 (UInt32.ofNat v.toNat)) :: e) S H) : XD P n B ops C need k (.q i t) e S H :=
  xqq ho hg (fun a' w' he _ => by
    obtain ⟨ds, hds⟩ := Option.isSome_iff_exists.1 hS
    have h1 : IntKind.u32.wrap (v : Int) = ((UInt32.ofNat v.toNat).toNat : Int) := by rw [IntKind.wrap_u32, UInt32.toNat_ofNat']; omega
    simp only [execOp, he.opv hx, SV.val]
    simp [convert, run_underlying hT, run_underlying hds, Conv.intToInt, h1]) hk

theorem q_cv_i_u64 {v : Int} (hT : P.underlying T2 = some (.int .u64)) (hS : (P.underlying T).isSome = true) (ho : nth ops i = some ⟨some d, .convert T T2 x, ty, pos, af, g⟩) (hg : gok ops e g = some true) (hx : opv e x = some (.i v)) (h0 : 0 ≤ v)
    (hk : XD P n B ops C need k t ((d, .u64 (UInt64.ofNat v.toNat)) :: e) S H) : XD P n B ops C need k (.q i t) e S H :=
  xqq ho hg (fun a' w' he _ => by
    obtain ⟨ds, hds⟩ := Option.isSome_iff_exists.1 hS
    have h1 : IntKind.u64.wrap (v : Int) = ((UInt64.ofNat v.toNat).toNat : Int) := by rw [IntKind.wrap_u64, UInt64.toNat_ofNat']; omega
    simp only [execOp, he.opv hx, SV.val]
    simp [convert, run_underlying hT, run_underlying hds, Conv.intToInt, h1]) hk

theorem q_cv_u8_i {a : UInt8} (hT : P.underlying T2 = some (.int .i64)) (hS : (P.underlying T).isSome = true) (ho : nth ops i = some ⟨some d, .convert T T2 x, ty, pos, af, g⟩) (hg : gok ops e g = some true) (hx : opv e x = some (.u8 a)) 
    (hk : XD P n B ops C need k t ((d, .i (a.toNat : Int)) :: e) S H) : XD P n B ops C need k (.q i t) e S H :=
  xqq ho hg (fun a' w' he _ => by
    obtain ⟨ds, hds⟩ := Option.isSome_iff_exists.1 hS
    have h1 : IntKind.i64.wrap (a.toNat : Int) = (a.toNat : Int) := by have := a.toNat_lt; rw [IntKind.wrap_i64]; omega
    simp only [execOp, he.opv hx, SV.val]
    simp [convert, run_underlying hT, run_underlying hds, Conv.intToInt, h1]) hk

theorem q_cv_u16_i {a : UInt16} (hT : P.underlying T2 = some (.int .i64)) (hS : (P.underlying T).isSome = true) (ho : nth ops i = some ⟨some d, .convert T T2 x, ty, pos, af, g⟩) (hg : gok ops e g = some true) (hx : opv e x = some (.u16 a)) 
    (hk : XD P n B ops C need k t ((d, .i (a.toNat : Int)) :: e) S H) : XD P n B ops C need k (.q i t) e S H :=
  xqq ho hg (fun a' w' he _ => by
    obtain ⟨ds, hds⟩ := Option.isSome_iff_exists.1 hS
    have h1 : IntKind.i64.wrap (a.toNat : Int) = (a.toNat : Int) := by have := a.toNat_lt; rw [IntKind.wrap_i64]; omega
    simp only [execOp, he.opv hx, SV.val]
    simp [convert, run_underlying hT, run_underlying hds, Conv.intToInt, h1]) hk

theorem q_cv_u32_i {a : UInt32} (hT : P.underlying T2 = some (.int .i64)) (hS : (P.underlying T).isSome = true) (ho : nth ops i = some ⟨some d, .convert T T2 x, ty, pos, af, g⟩) (hg : gok ops e g = some true) (hx : opv e x = some (.u32 a)) 
    (hk : XD P n B ops C need k t ((d, .i (a.toNat : Int)) :: e) S H) : XD P n B ops C need k (.q i t) e S H :=
  xqq ho hg (fun a' w' he _ => by
    obtain ⟨ds, hds⟩ := Option.isSome_iff_exists.1 hS
    have h1 : IntKind.i64.wrap (a.toNat : Int) = (a.toNat : Int) := by have := a.toNat_lt; rw [IntKind.wrap_i64]; omega
    simp only [execOp, he.opv hx, SV.val]
    simp [convert, run_underlying hT, run_underlying hds, Conv.intToInt, h1]) hk

theorem q_cv_u64_i {a : UInt64} (hT : P.underlying T2 = some (.int .i64)) (hS : (P.underlying T).isSome = true) (ho : nth ops i = some ⟨some d, .convert T T2 x, ty, pos, af, g⟩) (hg : gok ops e g = some true) (hx : opv e x = some (.u64 a)) (h0 : a.toNat ≤ 9223372036854775807)
    (hk : XD P n B ops C need k t ((d, .i (a.toNat : Int)) :: e) S H) : XD P n B ops C need k (.q i t) e S H :=
  xqq ho hg (fun a' w' he _ => by
    obtain ⟨ds, hds⟩ := Option.isSome_iff_exists.1 hS
    have h1 : IntKind.i64.wrap (a.toNat : Int) = (a.toNat : Int) := by rw [IntKind.wrap_i64]; omega
    simp only [execOp, he.opv hx, SV.val]
    simp [convert, run_underlying hT, run_underlying hds, Conv.intToInt, h1]) hk

theorem q_cv_u8_u32 {a : UInt8} (hT : P.underlying T2 = some (.int .u32)) (hS : (P.underlying T).isSome = true) (ho : nth ops i = some ⟨some d, .convert T T2 x, ty, pos, af, g⟩) (hg : gok ops e g = some true) (hx : opv e x = some (.u8 a)) 
    (hk : XD P n B ops C need k t ((d, .u32 a.toUInt32) :: e) S H) : XD P n B ops C need k (.q i t) e S H :=
  xqq ho hg (fun a' w' he _ => by
    obtain ⟨ds, hds⟩ := Option.isSome_iff_exists.1 hS
    have h1 : IntKind.u32.wrap (a.toNat : Int) = (a.toUInt32.toNat : Int) := by have := a.toNat_lt; rw [IntKind.wrap_u32, UInt8.toNat_toUInt32]; omega
    simp only [execOp, he.opv hx, SV.val]
    simp [convert, run_underlying hT, run_underlying hds, Conv.intToInt, h1]) hk

theorem q_cv_u8_u64 {a : UInt8} (hT : P.underlying T2 = some (.int .u64)) (hS : (P.underlying T).isSome = true) (ho : nth ops i = some ⟨some d, .convert T T2 x, ty, pos, af, g⟩) (hg : gok ops e g = some true) (hx : opv e x = some (.u8 a)) 
    (hk : XD P n B ops C need k t ((d, .u64 a.toUInt64) :: e) S H) : XD P n B ops C need k (.q i t) e S H :=
  xqq ho hg (fun a' w' he _ => by
    obtain ⟨ds, hds⟩ := Option.isSome_iff_exists.1 hS
    have h1 : IntKind.u64.wrap (a.toNat : Int) = (a.toUInt64.toNat : Int) := by have := a.toNat_lt; rw [IntKind.wrap_u64, UInt8.toNat_toUInt64]; omega
    simp only [execOp, he.opv hx, SV.val]
    simp [convert, run_underlying hT, run_underlying hds, Conv.intToInt, h1]) hk

theorem q_cv_u32_u64 {a : UInt32} (hT : P.underlying T2 = some (.int .u64)) (hS : (P.underlying T).isSome = true) (ho : nth ops i = some ⟨some d, .convert T T2 x, ty, pos, af, g⟩) (hg : gok ops e g = some true) (hx : opv e x = some (.u32 a)) 
    (hk : XD P n B ops C need k t ((d, .u64 a.toUInt64) :: e) S H) : XD P n B ops C need k (.q i t) e S H :=
  xqq ho hg (fun a' w' he _ => by
    obtain ⟨ds, hds⟩ := Option.isSome_iff_exists.1 hS
    have h1 : IntKind.u64.wrap (a.toNat : Int) = (a.toUInt64.toNat : Int) := by have := a.toNat_lt; rw [IntKind.wrap_u64, UInt32.toNat_toUInt64]; omega
    simp only [execOp, he.opv hx, SV.val]
    simp [convert, run_underlying hT, run_underlying hds, Conv.intToInt, h1]) hk

theorem q_cv_u64_u32 {a : UInt64} (hT : P.underlying T2 = some (.int .u32)) (hS : (P.underlying T).isSome = true) (ho : nth ops i = some ⟨some d, .convert T T2 x, ty, pos, af, g⟩) (hg : gok ops e g = some true) (hx : opv e x = some (.u64 a)) 
    (hk : XD P n B ops C need k t ((d, .u32 a.toUInt32) :: e) S H) : XD P n B ops C need k (.q i t) e S H :=
  xqq ho hg (fun a' w' he _ => by
    obtain ⟨ds, hds⟩ := Option.isSome_iff_exists.1 hS
    have h1 : IntKind.u32.wrap (a.toNat : Int) = (a.toUInt32.toNat : Int) := by have := a.toNat_lt; rw [IntKind.wrap_u32, UInt64.toNat_toUInt32]; omega
    simp only [execOp, he.opv hx, SV.val]
    simp [convert, run_underlying hT, run_underlying hds, Conv.intToInt, h1]) hk

theorem q_cv_u64_u8 {a : UInt64} (hT : P.underlying T2 = some (.int .u8)) (hS : (P.underlying T).isSome = true) (ho : nth ops i = some ⟨some d, .convert T T2 x, ty, pos, af, g⟩) (hg : gok ops e g = some true) (hx : opv e x = some (.u64 a)) 
    (hk : XD P n B ops C need k t ((d, .u8 a.toUInt8) :: e) S H) : XD P n B ops C need k (.q i t) e S H :=
  xqq ho hg (fun a' w' he _ => by
    obtain ⟨ds, hds⟩ := Option.isSome_iff_exists.1 hS
    have h1 : IntKind.u8.wrap (a.toNat : Int) = (a.toUInt8.toNat : Int) := by have := a.toNat_lt; rw [IntKind.wrap_u8, UInt64.toNat_toUInt8]; omega
    simp only [execOp, he.opv hx, SV.val]
    simp [convert, run_underlying hT, run_underlying hds, Conv.intToInt, h1]) hk

theorem q_cv_u32_u8 {a : UInt32} (hT : P.underlying T2 = some (.int .u8)) (hS : (P.underlying T).isSome = true) (ho : nth ops i = some ⟨some d, .convert T T2 x, ty, pos, af, g⟩) (hg : gok ops e g = some true) (hx : opv e x = some (.u32 a)) 
    (hk : XD P n B ops C need k t ((d, .u8 a.toUInt8) :: e) S H) : XD P n B ops C need k (.q i t) e S H :=
  xqq ho hg (fun a' w' he _ => by
    obtain ⟨ds, hds⟩ := Option.isSome_iff_exists.1 hS
    have h1 : IntKind.u8.wrap (a.toNat : Int) = (a.toUInt8.toNat : Int) := by have := a.toNat_lt; rw [IntKind.wrap_u8, UInt32.toNat_toUInt8]; omega
    simp only [execOp, he.opv hx, SV.val]
    simp [convert, run_underlying hT, run_underlying hds, Conv.intToInt, h1]) hk


theorem q_eq_b {a b : Bool} (hT : P.underlying T = some .bool) (ho : nth ops i = some ⟨some d, .binOp .eql T x y T2, ty, pos, af, g⟩) (hg : gok ops e g = some true) (hx : opv e x = some (.b a)) (hy : opv e y = some (.b b))
    (hk : XD P n B ops C need k t ((d, .b (a == b)) :: e) S H) : XD P n B ops C need k (.q i t) e S H :=
  xbin (sv := .b (a == b)) ho hg hx hy (fun w => by simp [eqGuard, SV.val]) (fun w => run_eql_bool w T a b hT) hk
theorem q_ne_b {a b : Bool} (hT : P.underlying T = some .bool) (ho : nth ops i = some ⟨some d, .binOp .neq T x y T2, ty, pos, af, g⟩) (hg : gok ops e g = some true) (hx : opv e x = some (.b a)) (hy : opv e y = some (.b b))
    (hk : XD P n B ops C need k t ((d, .b (!(a == b))) :: e) S H) : XD P n B ops C need k (.q i t) e S H :=
  xbin (sv := .b (!(a == b))) ho hg hx hy (fun w => by simp [eqGuard, SV.val]) (fun w => run_neq_bool w T a b hT) hk
theorem q_eq_s {a b : ByteArray} (ho : nth ops i = some ⟨some d, .binOp .eql T x y T2, ty, pos, af, g⟩) (hg : gok ops e g = some true) (hx : opv e x = some (.s a)) (hy : opv e y = some (.s b))
    (hk : XD P n B ops C need k t ((d, .b (a.toList == b.toList)) :: e) S H) : XD P n B ops C need k (.q i t) e S H :=
  xbin ho hg hx hy (fun w => by simp [eqGuard, SV.val]) (fun w => by simp only [binOp, SV.val, Op.stringOp]; rfl) hk
theorem q_ne_s {a b : ByteArray} (ho : nth ops i = some ⟨some d, .binOp .neq T x y T2, ty, pos, af, g⟩) (hg : gok ops e g = some true) (hx : opv e x = some (.s a)) (hy : opv e y = some (.s b))
    (hk : XD P n B ops C need k t ((d, .b (!(a.toList == b.toList))) :: e) S H) : XD P n B ops C need k (.q i t) e S H :=
  xbin ho hg hx hy (fun w => by simp [eqGuard, SV.val]) (fun w => by simp only [binOp, SV.val, Op.stringOp]; rfl) hk
theorem q_eq_pn {a : Addr} {el : TypeId} (hT : P.underlying T = some (.pointer el)) (ho : nth ops i = some ⟨some d, .binOp .eql T x y T2, ty, pos, af, g⟩) (hg : gok ops e g = some true) (hx : opv e x = some (.p a)) (hy : opv e y = some .np)
    (hk : XD P n B ops C need k t ((d, .b false) :: e) S H) : XD P n B ops C need k (.q i t) e S H :=
  xbin (sv := .b false) ho hg hx hy (fun w => by simp [eqGuard, SV.val]) (fun w => run_eq_pn hT (some a) w) hk
theorem q_ne_pn {a : Addr} {el : TypeId} (hT : P.underlying T = some (.pointer el)) (ho : nth ops i = some ⟨some d, .binOp .neq T x y T2, ty, pos, af, g⟩) (hg : gok ops e g = some true) (hx : opv e x = some (.p a)) (hy : opv e y = some .np)
    (hk : XD P n B ops C need k t ((d, .b true) :: e) S H) : XD P n B ops C need k (.q i t) e S H :=
  xbin (sv := .b true) ho hg hx hy (fun w => by simp [eqGuard, SV.val]) (fun w => run_ne_pn hT (some a) w) hk
theorem q_eq_nn {el : TypeId} (hT : P.underlying T = some (.pointer el)) (ho : nth ops i = some ⟨some d, .binOp .eql T x y T2, ty, pos, af, g⟩) (hg : gok ops e g = some true) (hx : opv e x = some .np) (hy : opv e y = some .np)
    (hk : XD P n B ops C need k t ((d, .b true) :: e) S H) : XD P n B ops C need k (.q i t) e S H :=
  xbin (sv := .b true) ho hg hx hy (fun w => by simp [eqGuard, SV.val]) (fun w => run_eq_pn hT none w) hk
theorem q_ne_nn {el : TypeId} (hT : P.underlying T = some (.pointer el)) (ho : nth ops i = some ⟨some d, .binOp .neq T x y T2, ty, pos, af, g⟩) (hg : gok ops e g = some true) (hx : opv e x = some .np) (hy : opv e y = some .np)
    (hk : XD P n B ops C need k t ((d, .b false) :: e) S H) : XD P n B ops C need k (.q i t) e S H :=
  xbin (sv := .b false) ho hg hx hy (fun w => by simp [eqGuard, SV.val]) (fun w => run_ne_pn hT none w) hk
/-- a slice against nil -/
theorem q_eq_sn {A : Option Addr} {l c : Nat} {el : TypeId} (hT : P.underlying T = some (.slice el)) (ho : nth ops i = some ⟨some d, .binOp .eql T x y T2, ty, pos, af, g⟩) (hg : gok ops e g = some true) (hx : opv e x = some (.sl A l c)) (hy : opv e y = some (.sl none 0 0))
    (hk : XD P n B ops C need k t ((d, .b A.isNone) :: e) S H) : XD P n B ops C need k (.q i t) e S H :=
  xbin (sv := .b A.isNone) ho hg hx hy (fun w => by simp [eqGuard, SV.val]) (fun w => run_eq_sn hT A l c w) hk
theorem q_ne_sn {A : Option Addr} {l c : Nat} {el : TypeId} (hT : P.underlying T = some (.slice el)) (ho : nth ops i = some ⟨some d, .binOp .neq T x y T2, ty, pos, af, g⟩) (hg : gok ops e g = some true) (hx : opv e x = some (.sl A l c)) (hy : opv e y = some (.sl none 0 0))
    (hk : XD P n B ops C need k t ((d, .b (!A.isNone)) :: e) S H) : XD P n B ops C need k (.q i t) e S H :=
  xbin (sv := .b (!A.isNone)) ho hg hx hy (fun w => by simp [eqGuard, SV.val]) (fun w => run_ne_sn hT A l c w) hk
end
end Go.GW
