/- Own words, part D: the operations that only compute or read. -/
import Derived.Test.YtcchamnagcpaiaaGwC
import Derived.WalkKit
import Derived.Laws.Rows
import Derived.Laws.CopyRow
import Derived.Laws.MakeOwn
import Derived.Laws.Append
import Derived.Laws.AppendOwn
set_option linter.unusedVariables false
set_option linter.unusedSimpArgs false
namespace Go.GW
open Go

/-- is the operation wanted? -/
def gok (ops : List Oper) (e : Env) : Option (Nat × Bool) → Option Bool
  | none => some true
  | some (j, b) => match nth ops j with
    | some oj => match oj.dst with
      | some dj => match lk e dj with
        | some (.b c) => some (c == b)
        | some (.v (.tuple _)) => some false
        | _ => none
      | none => none
    | none => none

theorem gok_spec {n : Nat} {ops : List Oper} {e : Env} {a : Act} {g : Option (Nat × Bool)} {r : Bool} (h : Holds n e a) (hn : ∀ j b oj dj, g = some (j, b) → nth ops j = some oj → oj.dst = some dj → dj < n) (hg : gok ops e g = some r)
    (dst : Option Tmp) (op : Op) (ty : TypeId) (pos : String) (af : Array Edge) : want ops ⟨dst, op, ty, pos, af, g⟩ a = r := by
  unfold want Region.wanted
  cases g with
  | none => simp only [gok, Option.some.injEq] at hg; subst hg; rfl
  | some jb =>
    obtain ⟨j, b⟩ := jb
    simp only [gok] at hg
    show (yielded ops.toArray a.tmps j == some b) = r
    split at hg
    · rename_i oj hj
      split at hg
      · rename_i dj hdj
        have hlt : dj < n := hn j b oj dj rfl hj hdj
        have hget : a.tmps[dj]? = some (a.tmps.getD dj undef) := by
          rw [Array.getD_eq_getD_getElem?]
          have : dj < a.tmps.size := by rw [h.size]; exact hlt
          simp [this]
        have hy : yielded ops.toArray a.tmps j = match a.tmps.getD dj undef with | .bool b => some b | _ => none := by
          unfold yielded
          rw [nth_eq] at hj
          have hj' : ops.toArray[j]? = some oj := by simpa using hj
          rw [hj']
          simp only [Option.bind_some, hdj, hget]
          cases a.tmps.getD dj undef <;> rfl
        split at hg
        · rename_i c hc
          have := h.at_ dj _ hc
          rw [hy, this]
          simp only [SV.val]
          simp only [Option.some.injEq] at hg
          rw [← hg]
          cases c <;> cases b <;> rfl
        · rename_i x hc
          have := h.at_ dj _ hc
          rw [hy, this]
          simp only [SV.val]
          simp only [Option.some.injEq] at hg
          rw [← hg]
          rfl
        · cases hg
      · cases hg
    · cases hg

/-- all slots written in the region lie in the frame -/
def dstOk (n : Nat) (ops : List Oper) : Bool := ops.all fun o => match o.dst with
  | some d => Nat.blt d n
  | none => true

theorem dstOk_spec {n : Nat} {ops : List Oper} (h : dstOk n ops = true) (j : Nat) (o : Oper) (d : Nat) (hj : nth ops j = some o) (hd : o.dst = some d) : d < n := by
  rw [nth_eq] at hj
  have := List.all_eq_true.1 h o (List.mem_of_getElem? hj)
  rw [hd] at this
  simpa [Nat.blt_eq] using this

/-- what a quiet operation leans on -/
def Pl (C : Option (Res × Hp)) (S : Res) (H : Hp) : Res × Hp :=
  match C with
  | none => (S, H)
  | some x => x

/-- XE over operations whose slots all lie in the frame -/
def XD (P : Program) (n : Nat) (B : Base) (ops : List Oper) (C : Option (Res × Hp)) (need : Nat → Bool) (k : List Kont) (t : XT) (e : Env) (S : Res) (H : Hp) : Prop :=
  dstOk n ops = true → XE P n B ops C need k t e S H

section
variable {P : Program} {n : Nat} {B : Base} {k : List Kont} {ops : List Oper} {C : Option (Res × Hp)} {need : Nat → Bool} {t : XT} {e : Env} {S : Res} {H : Hp}
variable {i d : Nat} {ty : TypeId} {pos : String} {af : Array Edge} {g : Option (Nat × Bool)}

theorem rg {id : Nat} (t : XT) (ht : lexT ops.length t 0 = true) (hd : dstOk n ops = true) (h : XD P n B ops none (fun _ => false) k t e S H) : EW P n B (.region id ops.toArray false) k e S H :=
  ew_region t ht (h hd)

theorem rd {id : Nat} (hm : P.follows .mixedOrders = true) (qs ns : List Nat) (t : XT) (hok : drawOk ops qs ns t = true) (hd : dstOk n ops = true) (C : Res) (hC1 : ∀ c ∈ C, c ∈ S)
    (h : XD P n B ops (some (C, H)) (fun j => ns.contains j) k t e S H) : EW P n B (.region id ops.toArray true) k e S H :=
  ew_draw hm qs ns t hok (C, H) hC1 rfl (h hd)

theorem x_end (h : NK P n B k e S H) : XD P n B ops C need k .done e S H := fun _ => xe_done h

/-- an operation that is not wanted -/
theorem q_skip {op : Op} (ho : nth ops i = some ⟨some d, op, ty, pos, af, g⟩) (hg : gok ops e g = some false) (hk : XD P n B ops C need k t ((d, .v undef) :: e) S H) : XD P n B ops C need k (.q i t) e S H := by
  intro hdo a w he hw
  have hd : Nat.blt d n = true := by rw [Nat.blt_eq]; exact dstOk_spec hdo i _ d ho rfl
  exact ⟨_, ho, .inr ⟨gok_spec he (fun j b oj dj _ hj hdj => dstOk_spec hdo j oj dj hj hdj) hg _ _ _ _ _, hk hdo _ _ (he.put (sv := .v undef) hd) hw⟩⟩
theorem h_skip {op : Op} (ho : nth ops i = some ⟨some d, op, ty, pos, af, g⟩) (hg : gok ops e g = some false) (hk : XD P n B ops C need k t ((d, .v undef) :: e) S H) : XD P n B ops C need k (.h i t) e S H := by
  intro hdo a w he hw
  have hd : Nat.blt d n = true := by rw [Nat.blt_eq]; exact dstOk_spec hdo i _ d ho rfl
  exact ⟨_, ho, .inr ⟨gok_spec he (fun j b oj dj _ hj hdj => dstOk_spec hdo j oj dj hj hdj) hg _ _ _ _ _, hk hdo _ _ (he.put (sv := .v undef) hd) hw⟩⟩

theorem xqq {op : Op} {sv : SV} (ho : nth ops i = some ⟨some d, op, ty, pos, af, g⟩) (hg : gok ops e g = some true)
    (hev : ∀ a w', Holds n e a → CK (Pl C S H) w' → (execOp a.eval ⟨some d, op, ty, pos, af, g⟩).run P w' = .ok (.value sv.val) w')
    (hk : XD P n B ops C need k t ((d, sv) :: e) S H) : XD P n B ops C need k (.q i t) e S H := by
  intro hdo a w he hw
  have hd : Nat.blt d n = true := by rw [Nat.blt_eq]; exact dstOk_spec hdo i _ d ho rfl
  refine ⟨_, ho, .inl ⟨gok_spec he (fun j b oj dj _ hj hdj => dstOk_spec hdo j oj dj hj hdj) hg _ _ _ _ _, sv.val, fun w' hC => hev a w' he ?_, hk hdo _ _ (he.put hd) hw⟩⟩
  cases C with
  | none => obtain rfl : w' = w := hC; exact ⟨hw.res, hw.hp⟩
  | some x => exact hC

theorem q_mv {x : Operand} {sv : SV} (ho : nth ops i = some ⟨some d, .move x, ty, pos, af, g⟩) (hg : gok ops e g = some true) (hx : opv e x = some sv)
    (hk : XD P n B ops C need k t ((d, sv) :: e) S H) : XD P n B ops C need k (.q i t) e S H :=
  xqq ho hg (fun a w' he _ => by simp only [execOp, he.opv hx]; rfl) hk
theorem q_as {x : Operand} {sv : SV} (ho : nth ops i = some ⟨some d, .assign x, ty, pos, af, g⟩) (hg : gok ops e g = some true) (hx : opv e x = some sv)
    (hk : XD P n B ops C need k t ((d, sv) :: e) S H) : XD P n B ops C need k (.q i t) e S H :=
  xqq ho hg (fun a w' he _ => by simp only [execOp, he.opv hx]; rfl) hk

/-- pick, the test known -/
theorem q_pkT {c x y : Operand} {sv : SV} (ho : nth ops i = some ⟨some d, .pick c x y, ty, pos, af, g⟩) (hg : gok ops e g = some true) (hc : opv e c = some (.b true)) (hx : opv e x = some sv)
    (hk : XD P n B ops C need k t ((d, sv) :: e) S H) : XD P n B ops C need k (.q i t) e S H :=
  xqq ho hg (fun a w' he _ => by simp [execOp, he.opv hx, he.opv hc, SV.val, asBool]) hk
theorem q_pkF {c x y : Operand} {sv : SV} (ho : nth ops i = some ⟨some d, .pick c x y, ty, pos, af, g⟩) (hg : gok ops e g = some true) (hc : opv e c = some (.b false)) (hy : opv e y = some sv)
    (hk : XD P n B ops C need k t ((d, sv) :: e) S H) : XD P n B ops C need k (.q i t) e S H :=
  xqq ho hg (fun a w' he _ => by simp [execOp, he.opv hy, he.opv hc, SV.val, asBool]) hk
/-- pick, all three Bools -/
theorem q_pkB {c x y : Operand} {bc bx by' : Bool} (ho : nth ops i = some ⟨some d, .pick c x y, ty, pos, af, g⟩) (hg : gok ops e g = some true) (hc : opv e c = some (.b bc)) (hx : opv e x = some (.b bx)) (hy : opv e y = some (.b by'))
    (hk : XD P n B ops C need k t ((d, .b (cond bc bx by')) :: e) S H) : XD P n B ops C need k (.q i t) e S H :=
  xqq ho hg (fun a w' he _ => by cases bc <;> simp [execOp, he.opv hx, he.opv hy, he.opv hc, SV.val, asBool]) hk

theorem q_not {x : Operand} {b : Bool} {T : TypeId} (ho : nth ops i = some ⟨some d, .unOp .not T x, ty, pos, af, g⟩) (hg : gok ops e g = some true) (hx : opv e x = some (.b b))
    (hk : XD P n B ops C need k t ((d, .b (!b)) :: e) S H) : XD P n B ops C need k (.q i t) e S H :=
  xqq ho hg (fun a w' he _ => by simp [execOp, he.opv hx, SV.val, Op.unary]) hk
theorem q_neg {x : Operand} {v : Int} {T : TypeId} (ho : nth ops i = some ⟨some d, .unOp .neg T x, ty, pos, af, g⟩) (hg : gok ops e g = some true) (hx : opv e x = some (.i v)) (h0 : -9223372036854775808 < v) (h1 : v ≤ 9223372036854775808)
    (hk : XD P n B ops C need k t ((d, .i (-v)) :: e) S H) : XD P n B ops C need k (.q i t) e S H :=
  xqq ho hg (fun a w' he _ => by
    have : IntKind.i64.wrap (-v) = -v := by rw [IntKind.wrap_i64]; omega
    simp [execOp, he.opv hx, SV.val, Op.unary, Op.intArith, this]) hk

theorem q_nil {x : Operand} {a0 : Addr} (ho : nth ops i = some ⟨some d, .nilCheck x, ty, pos, af, g⟩) (hg : gok ops e g = some true) (hx : opv e x = some (.p a0))
    (hk : XD P n B ops C need k t ((d, .p a0) :: e) S H) : XD P n B ops C need k (.q i t) e S H :=
  xqq ho hg (fun a w' he _ => by simp [execOp, he.opv hx, SV.val]) hk
theorem q_nilf {x : Operand} {f : FuncId} {cap : List SV} (ho : nth ops i = some ⟨some d, .nilCheck x, ty, pos, af, g⟩) (hg : gok ops e g = some true) (hx : opv e x = some (.fn f cap))
    (hk : XD P n B ops C need k t ((d, .fn f cap) :: e) S H) : XD P n B ops C need k (.q i t) e S H :=
  xqq ho hg (fun a w' he _ => by simp [execOp, he.opv hx, SV.val]) hk

/-! ### binary operations -/
theorem xbin {o : BinOp} {T T2 : TypeId} {x y : Operand} {sx sy sv : SV} (ho : nth ops i = some ⟨some d, .binOp o T x y T2, ty, pos, af, g⟩) (hg : gok ops e g = some true) (hx : opv e x = some sx) (hy : opv e y = some sy)
    (hq : ∀ w, (eqGuard o T x y sx.val sy.val).run P w = .ok () w) (hb : ∀ w, (binOp o T sx.val sy.val).run P w = .ok sv.val w)
    (hk : XD P n B ops C need k t ((d, sv) :: e) S H) : XD P n B ops C need k (.q i t) e S H :=
  xqq ho hg (fun a w' he _ => by simp only [execOp, he.opv hx, he.opv hy]; simp [hq w', hb w']) hk

section
variable {T T2 : TypeId} {x y : Operand}

theorem q_add {u v : Int} (ho : nth ops i = some ⟨some d, .binOp .add T x y T2, ty, pos, af, g⟩) (hg : gok ops e g = some true) (hx : opv e x = some (.i u)) (hy : opv e y = some (.i v)) (h0 : -9223372036854775808 ≤ u + v) (h1 : u + v ≤ 9223372036854775807)
    (hk : XD P n B ops C need k t ((d, .i (u + v)) :: e) S H) : XD P n B ops C need k (.q i t) e S H :=
  xbin ho hg hx hy (fun w => by simp [eqGuard]) (fun w => by
    have : IntKind.i64.wrap (u + v) = u + v := by rw [IntKind.wrap_i64]; omega
    simp [binOp, SV.val, Op.intArith, this]) hk
theorem q_sub {u v : Int} (ho : nth ops i = some ⟨some d, .binOp .sub T x y T2, ty, pos, af, g⟩) (hg : gok ops e g = some true) (hx : opv e x = some (.i u)) (hy : opv e y = some (.i v)) (h0 : -9223372036854775808 ≤ u - v) (h1 : u - v ≤ 9223372036854775807)
    (hk : XD P n B ops C need k t ((d, .i (u - v)) :: e) S H) : XD P n B ops C need k (.q i t) e S H :=
  xbin ho hg hx hy (fun w => by simp [eqGuard]) (fun w => by
    have : IntKind.i64.wrap (u - v) = u - v := by rw [IntKind.wrap_i64]; omega
    simp [binOp, SV.val, Op.intArith, this]) hk
theorem q_mul {u v : Int} (ho : nth ops i = some ⟨some d, .binOp .mul T x y T2, ty, pos, af, g⟩) (hg : gok ops e g = some true) (hx : opv e x = some (.i u)) (hy : opv e y = some (.i v)) (h0 : -9223372036854775808 ≤ u * v) (h1 : u * v ≤ 9223372036854775807)
    (hk : XD P n B ops C need k t ((d, .i (u * v)) :: e) S H) : XD P n B ops C need k (.q i t) e S H :=
  xbin ho hg hx hy (fun w => by simp [eqGuard]) (fun w => by
    have : IntKind.i64.wrap (u * v) = u * v := by rw [IntKind.wrap_i64]; omega
    simp [binOp, SV.val, Op.intArith, this]) hk
theorem q_quo {u v : Int} (ho : nth ops i = some ⟨some d, .binOp .quo T x y T2, ty, pos, af, g⟩) (hg : gok ops e g = some true) (hx : opv e x = some (.i u)) (hy : opv e y = some (.i v)) (hu : 0 ≤ u) (h0 : 0 < v) (h1 : u ≤ 9223372036854775807)
    (hk : XD P n B ops C need k t ((d, .i (u / v)) :: e) S H) : XD P n B ops C need k (.q i t) e S H :=
  xbin ho hg hx hy (fun w => by simp [eqGuard]) (fun w => by
    have hv : ¬ v = 0 := by omega
    have ht : u.tdiv v = u / v := Int.tdiv_eq_ediv_of_nonneg hu
    have hq0 : 0 ≤ u / v := Int.ediv_nonneg hu (by omega)
    have hq1 : u / v ≤ u := Int.ediv_le_self _ hu
    have : IntKind.i64.wrap (u / v) = u / v := by rw [IntKind.wrap_i64]; omega
    simp [binOp, SV.val, Op.intDiv, hv, ht, this]) hk
theorem q_rem {u v : Int} (ho : nth ops i = some ⟨some d, .binOp .rem T x y T2, ty, pos, af, g⟩) (hg : gok ops e g = some true) (hx : opv e x = some (.i u)) (hy : opv e y = some (.i v)) (hu : 0 ≤ u) (h0 : 0 < v) (h1 : u ≤ 9223372036854775807)
    (hk : XD P n B ops C need k t ((d, .i (u % v)) :: e) S H) : XD P n B ops C need k (.q i t) e S H :=
  xbin ho hg hx hy (fun w => by simp [eqGuard]) (fun w => by
    have hv : ¬ v = 0 := by omega
    have ht : u.tmod v = u % v := Int.tmod_eq_emod_of_nonneg hu
    simp [binOp, SV.val, Op.intDiv, hv, ht]) hk

theorem q_lt {u v : Int} (ho : nth ops i = some ⟨some d, .binOp .lss T x y T2, ty, pos, af, g⟩) (hg : gok ops e g = some true) (hx : opv e x = some (.i u)) (hy : opv e y = some (.i v))
    (hk : XD P n B ops C need k t ((d, .b (decide (u < v))) :: e) S H) : XD P n B ops C need k (.q i t) e S H :=
  xbin ho hg hx hy (fun w => by simp [eqGuard]) (fun w => by simp [binOp, SV.val, Op.intCmp]) hk
theorem q_le {u v : Int} (ho : nth ops i = some ⟨some d, .binOp .leq T x y T2, ty, pos, af, g⟩) (hg : gok ops e g = some true) (hx : opv e x = some (.i u)) (hy : opv e y = some (.i v))
    (hk : XD P n B ops C need k t ((d, .b (decide (u ≤ v))) :: e) S H) : XD P n B ops C need k (.q i t) e S H :=
  xbin ho hg hx hy (fun w => by simp [eqGuard]) (fun w => by simp [binOp, SV.val, Op.intCmp]) hk
theorem q_gt {u v : Int} (ho : nth ops i = some ⟨some d, .binOp .gtr T x y T2, ty, pos, af, g⟩) (hg : gok ops e g = some true) (hx : opv e x = some (.i u)) (hy : opv e y = some (.i v))
    (hk : XD P n B ops C need k t ((d, .b (decide (v < u))) :: e) S H) : XD P n B ops C need k (.q i t) e S H :=
  xbin ho hg hx hy (fun w => by simp [eqGuard]) (fun w => by simp [binOp, SV.val, Op.intCmp]) hk
theorem q_ge {u v : Int} (ho : nth ops i = some ⟨some d, .binOp .geq T x y T2, ty, pos, af, g⟩) (hg : gok ops e g = some true) (hx : opv e x = some (.i u)) (hy : opv e y = some (.i v))
    (hk : XD P n B ops C need k t ((d, .b (decide (v ≤ u))) :: e) S H) : XD P n B ops C need k (.q i t) e S H :=
  xbin ho hg hx hy (fun w => by simp [eqGuard]) (fun w => by simp [binOp, SV.val, Op.intCmp]) hk
theorem q_eq {u v : Int} (ho : nth ops i = some ⟨some d, .binOp .eql T x y T2, ty, pos, af, g⟩) (hg : gok ops e g = some true) (hx : opv e x = some (.i u)) (hy : opv e y = some (.i v))
    (hk : XD P n B ops C need k t ((d, .b (decide (u = v))) :: e) S H) : XD P n B ops C need k (.q i t) e S H :=
  xbin ho hg hx hy (fun w => by simp [eqGuard, SV.val]) (fun w => by
    have : (u == v) = decide (u = v) := by by_cases h : u = v <;> simp [h]
    simp [binOp, SV.val, Op.intCmp, this]) hk
theorem q_ne {u v : Int} (ho : nth ops i = some ⟨some d, .binOp .neq T x y T2, ty, pos, af, g⟩) (hg : gok ops e g = some true) (hx : opv e x = some (.i u)) (hy : opv e y = some (.i v))
    (hk : XD P n B ops C need k t ((d, .b (decide (u ≠ v))) :: e) S H) : XD P n B ops C need k (.q i t) e S H :=
  xbin ho hg hx hy (fun w => by simp [eqGuard, SV.val]) (fun w => by
    have : (u != v) = decide (u ≠ v) := by by_cases h : u = v <;> simp [h]
    simp [binOp, SV.val, Op.intCmp, this]) hk
end
end
end Go.GW
