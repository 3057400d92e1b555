/- Own words, part A: symbolic values, environments of slots, the operations of a region in a tree of orders, and that such a tree serves every order of a region that draws its order. No program is named here. -/
import Derived.Orders
import Derived.Still
import Derived.Tactics
import Derived.KernelRfl
set_option linter.unusedVariables false
set_option linter.unusedSimpArgs false
namespace Go.GW
open Go

/-! ### Symbolic values -/
inductive SV where
  | i (x : Int)
  | u8 (x : UInt8)
  | u16 (x : UInt16)
  | u32 (x : UInt32)
  | u64 (x : UInt64)
  | b (x : Bool)
  | s (x : ByteArray)
  | p (a : Addr)
  | np
  | sl (A : Option Addr) (n c : Nat)
  | mp (r : Nat)
  | nm
  | agg (cs : List SV)
  | tup (vs : List SV)
  | fn (f : FuncId) (cap : List SV)
  | v (x : Value)

mutual
def SV.val : SV → Value
  | .i x => .int .i64 x
  | .u8 x => .int .u8 x.toNat
  | .u16 x => .int .u16 x.toNat
  | .u32 x => .int .u32 x.toNat
  | .u64 x => .int .u64 x.toNat
  | .b x => .bool x
  | .s x => .string x
  | .p a => .pointer (some a)
  | .np => .pointer none
  | .sl A n c => .slice A n c
  | .mp r => .map (some r)
  | .nm => .map none
  | .agg cs => .agg ⟨SV.vals cs⟩
  | .tup vs => .tuple ⟨SV.vals vs⟩
  | .fn f cap => .func (.func f) #[] ⟨SV.vals cap⟩
  | .v x => x
def SV.vals : List SV → List Value
  | [] => []
  | x :: r => x.val :: SV.vals r
end

theorem vals_eq (l : List SV) : SV.vals l = l.map SV.val := by
  induction l with
  | nil => rfl
  | cons x r ih => simp [SV.vals, ih]

/-! ### Environments -/
abbrev Env := List (Nat × SV)

def lk : Env → Nat → Option SV
  | [], _ => none
  | (s, x) :: r, t => cond (Nat.beq s t) (some x) (lk r t)

def nth {α : Type} : List α → Nat → Option α
  | [], _ => none
  | x :: _, 0 => some x
  | _ :: r, n + 1 => nth r n

theorem nth_eq {α : Type} (l : List α) (n : Nat) : nth l n = l[n]? := by
  induction l generalizing n with
  | nil => simp [nth]
  | cons x r ih => cases n <;> simp [nth, ih]

theorem getD_set_ne (a : Array Value) {d t : Nat} (u : Value) (h : d ≠ t) : (a.setIfInBounds d u).getD t undef = a.getD t undef := by
  simp only [Array.getD_eq_getD_getElem?, Array.getElem?_setIfInBounds_ne h]

theorem getD_set_eq (a : Array Value) {d : Nat} (u : Value) (h : d < a.size) : (a.setIfInBounds d u).getD d undef = u := by
  simp [Array.getD_eq_getD_getElem?, h]

structure Holds (n : Nat) (e : Env) (a : Act) : Prop where
  defers : a.defers = []
  size : a.tmps.size = n
  at_ : ∀ t sv, lk e t = some sv → a.tmps.getD t undef = sv.val

theorem Holds.put {n d : Nat} {e : Env} {a : Act} {sv : SV} (h : Holds n e a) (hd : Nat.blt d n = true) : Holds n ((d, sv) :: e) (a.put (some d) sv.val) := by
  have hd' : d < n := by simpa [Nat.blt_eq] using hd
  refine ⟨h.defers, by simp [Act.put, h.size], fun t x hx => ?_⟩
  simp only [lk] at hx
  by_cases hdt : d = t
  · subst hdt
    have : Nat.beq d d = true := Nat.beq_refl d
    rw [this] at hx
    simp only [cond_true, Option.some.injEq] at hx
    subst hx
    exact getD_set_eq _ _ (by rw [h.size]; exact hd')
  · have hb : Nat.beq d t = false := by
      cases hh : Nat.beq d t with
      | false => rfl
      | true => exact absurd (Nat.eq_of_beq_eq_true hh) hdt
    rw [hb] at hx
    rw [← h.at_ t x hx]
    exact getD_set_ne _ _ hdt

theorem Holds.put_none {n : Nat} {e : Env} {a : Act} {v : Value} (h : Holds n e a) : Holds n e (a.put none v) := h

/-- an operation's slot is written with what nobody will read -/
theorem Holds.put_any {n d : Nat} {e : Env} {a : Act} {u : Value} (h : Holds n e a) (hd : lk e d = none) : Holds n e (a.put (some d) u) := by
  refine ⟨h.defers, by simp [Act.put, h.size], fun t x hx => ?_⟩
  have hdt : d ≠ t := fun e' => by subst e'; rw [hd] at hx; cases hx
  rw [← h.at_ t x hx]
  exact getD_set_ne _ _ hdt

def Sub (e : Env) : Env → Prop
  | [] => True
  | (t, v) :: r => lk e t = some v ∧ Sub e r

theorem Holds.sub {n : Nat} {e e' : Env} {a : Act} (h : Holds n e a) (hs : Sub e e') : Holds n e' a := by
  refine ⟨h.defers, h.size, fun t sv ht => ?_⟩
  suffices H : ∀ e', Sub e e' → lk e' t = some sv → lk e t = some sv from h.at_ t sv (H e' hs ht)
  intro e'
  induction e' with
  | nil => intro _ h; cases h
  | cons p r ih =>
    obtain ⟨s, x⟩ := p
    intro hs hl
    simp only [lk] at hl
    by_cases hst : s = t
    · subst hst
      rw [Nat.beq_refl] at hl
      simp only [cond_true, Option.some.injEq] at hl
      subst hl
      exact hs.1
    · have hb : Nat.beq s t = false := by
        cases hh : Nat.beq s t with
        | false => rfl
        | true => exact absurd (Nat.eq_of_beq_eq_true hh) hst
      rw [hb] at hl
      exact ih hs.2 hl

/-- the environment cut to these slots -/
def cut (e : Env) : List Nat → Env
  | [] => []
  | t :: r => match lk e t with
    | some v => (t, v) :: cut e r
    | none => cut e r

theorem Holds.cut {n : Nat} {e e' : Env} {a : Act} (h : Holds n e a) (L : List Nat) (hc : GW.cut e L = e') : Holds n e' a := by
  subst hc
  refine h.sub ?_
  induction L with
  | nil => trivial
  | cons t r ih =>
    unfold GW.cut
    split
    · rename_i v hv; exact ⟨hv, ih⟩
    · exact ih

/-! ### Operands -/
def ofI (k : IntKind) (n : Int) : SV :=
  match k, n with
  | .i64, n => .i n
  | .u8, .ofNat m => cond (Nat.blt m 256) (.u8 (UInt8.ofNat m)) (.v (.int .u8 (.ofNat m)))
  | .u16, .ofNat m => cond (Nat.blt m 65536) (.u16 (UInt16.ofNat m)) (.v (.int .u16 (.ofNat m)))
  | .u32, .ofNat m => cond (Nat.blt m 4294967296) (.u32 (UInt32.ofNat m)) (.v (.int .u32 (.ofNat m)))
  | .u64, .ofNat m => cond (Nat.blt m 18446744073709551616) (.u64 (UInt64.ofNat m)) (.v (.int .u64 (.ofNat m)))
  | k, n => .v (.int k n)

def ofV : Value → SV
  | .int k n => ofI k n
  | .bool x => .b x
  | .string x => .s x
  | .pointer none => .np
  | .pointer (some a) => .p a
  | .slice A n c => .sl A n c
  | .map none => .nm
  | .map (some r) => .mp r
  | x => .v x

theorem ofI_val (k : IntKind) (n : Int) : (ofI k n).val = .int k n := by
  unfold ofI
  split
  · rfl
  · rename_i m
    cases h : Nat.blt m 256
    · rfl
    · have : m < 256 := by simpa [Nat.blt_eq] using h
      simp [SV.val, Nat.mod_eq_of_lt this]
  · rename_i m
    cases h : Nat.blt m 65536
    · rfl
    · have : m < 65536 := by simpa [Nat.blt_eq] using h
      simp [SV.val, Nat.mod_eq_of_lt this]
  · rename_i m
    cases h : Nat.blt m 4294967296
    · rfl
    · have : m < 4294967296 := by simpa [Nat.blt_eq] using h
      simp [SV.val, Nat.mod_eq_of_lt this]
  · rename_i m
    cases h : Nat.blt m 18446744073709551616
    · rfl
    · have : m < 18446744073709551616 := by simpa [Nat.blt_eq] using h
      simp [SV.val, Nat.mod_eq_of_lt this]
  · rfl

theorem ofV_val (v : Value) : (ofV v).val = v := by
  unfold ofV
  split <;> first | exact ofI_val _ _ | rfl

def opv (e : Env) : Operand → Option SV
  | .tmp t => lk e t
  | .const v => some (ofV v)
  | .global g => some (.p ⟨g, 0, none⟩)
  | .func f => some (.fn f [])

theorem Holds.opv {n : Nat} {e : Env} {a : Act} (h : Holds n e a) {x : Operand} {sv : SV} (hx : GW.opv e x = some sv) : a.eval x = sv.val := by
  cases x with
  | tmp t => exact h.at_ t sv hx
  | const v => simp only [GW.opv, Option.some.injEq] at hx; subst hx; exact (ofV_val v).symm
  | global g => simp only [GW.opv, Option.some.injEq] at hx; subst hx; rfl
  | func f => simp only [GW.opv, Option.some.injEq] at hx; subst hx; rfl

def opvs (e : Env) : List Operand → Option (List SV)
  | [] => some []
  | x :: r => match GW.opv e x, opvs e r with
    | some v, some vs => some (v :: vs)
    | _, _ => none

theorem Holds.opvs {n : Nat} {e : Env} {a : Act} (h : Holds n e a) : ∀ {l : List Operand} {svs : List SV}, GW.opvs e l = some svs → l.map a.eval = SV.vals svs
  | [], svs, hx => by simp only [GW.opvs, Option.some.injEq] at hx; subst hx; rfl
  | x :: r, svs, hx => by
    simp only [GW.opvs] at hx
    split at hx
    · rename_i v vs h1 h2
      simp only [Option.some.injEq] at hx
      subst hx
      simp [SV.vals, h.opv h1, Holds.opvs h h2]
    · cases hx

/-! ### Trees of orders -/
inductive XT where
  | q (i : Nat) (t : XT)
  | h (i : Nat) (t : XT)
  | br (i : Nat) (t : XT) (j : Nat) (u : XT)
  | done

/-- the worlds in which a quiet operation is asked -/
def inC (C : Option (World → Prop)) (w w' : World) : Prop :=
  match C with
  | none => w' = w
  | some c => c w'

def keepC (C : Option (World → Prop)) (w' : World) : Prop :=
  match C with
  | none => True
  | some c => c w'

/-- what is asked once an operation has been carried out -/
def hup (P : Program) (o : Oper) (a : Act) (K : Act → World → Prop) : Result Next → Prop
  | .ok (.value v) w' => K (a.put o.dst v) w'
  | .ok .skip w' => K (a.put o.dst undef) w'
  | .ok (.enter f args) w' => Calls P f args w' fun e w'' => ∃ v, e = .returned v ∧ K (a.put o.dst v) w''
  | _ => False

theorem hup_mono {P : Program} {o : Oper} {a : Act} {K K' : Act → World → Prop} (h : ∀ a w, K a w → K' a w) {r : Result Next} (hh : hup P o a K r) : hup P o a K' r := by
  cases r with
  | ok n w =>
    cases n <;> simp only [hup] at hh ⊢
    · exact h _ _ hh
    · exact h _ _ hh
    · exact hh.mono fun e w'' ⟨v, he, hk⟩ => ⟨v, he, h _ _ hk⟩
  | halt x w => exact hh.elim

theorem wp_of_hup {P : Program} {o : Oper} {a : Act} {w : World} {K : Act → World → Prop} {Q : Exit → Act → World → Prop} (h : hup P o a K ((execOp a.eval o).run P w)) : o.wp P a w K Q := by
  unfold Oper.wp
  generalize (execOp a.eval o).run P w = r at h
  cases r with
  | ok n w' =>
    cases n <;> simp only [hup] at h <;> simp only [Oper.upon]
    · exact h
    · exact h
    · exact h.mono fun e w'' ⟨v, he, hk⟩ => by subst he; exact hk
  | halt x w => exact h.elim

/-- a quiet operation: its value is the same in each of the worlds asked, and it leaves them alone -/
def Quiet (P : Program) (C : Option (World → Prop)) (o : Oper) (a : Act) (w : World) (v : Value) : Prop :=
  ∀ w', inC C w w' → (execOp a.eval o).run P w' = .ok (.value v) w'

def want (ops : List Oper) (o : Oper) (a : Act) : Bool := Region.wanted o (yielded ops.toArray a.tmps)

def xq (P : Program) (ops : List Oper) (C : Option (World → Prop)) (i : Nat) (K : Act → World → Prop) (a : Act) (w : World) : Prop :=
  ∃ o, nth ops i = some o ∧ ((want ops o a = true ∧ ∃ v, Quiet P C o a w v ∧ K (a.put o.dst v) w) ∨ (want ops o a = false ∧ K (a.put o.dst undef) w))

def xh (P : Program) (ops : List Oper) (C : Option (World → Prop)) (pend : Bool) (i : Nat) (K : Act → World → Prop) (a : Act) (w : World) : Prop :=
  ∃ o, nth ops i = some o ∧ ((want ops o a = true ∧ hup P o a (fun a' w' => (pend = true → keepC C w') ∧ K a' w') ((execOp a.eval o).run P w)) ∨ (want ops o a = false ∧ K (a.put o.dst undef) w))

def XW (P : Program) (ops : List Oper) (C : Option (World → Prop)) (need : Nat → Bool) (Q : Act → World → Prop) : XT → Act → World → Prop
  | .done, a, w => Q a w
  | .q i t, a, w => xq P ops C i (XW P ops C need Q t) a w
  | .h i t, a, w => xh P ops C (need i) i (XW P ops C need Q t) a w
  | .br i t j u, a, w => xh P ops C (need i) i (XW P ops C need Q t) a w ∧ xh P ops C (need j) j (XW P ops C need Q u) a w

/-! ### A region in the order of the text -/
def lexT (N : Nat) : XT → Nat → Bool
  | .done, k => Nat.beq k N
  | .q i t, k => Nat.beq i k && lexT N t (k + 1)
  | .h i t, k => Nat.beq i k && lexT N t (k + 1)
  | .br .., _ => false

theorem drop_nth {α : Type} {l : List α} {k : Nat} {o : α} (h : nth l k = some o) : l.drop k = o :: l.drop (k + 1) := by
  rw [nth_eq] at h
  obtain ⟨hk, he⟩ := List.getElem?_eq_some_iff.1 h
  rw [← he]
  exact List.drop_eq_getElem_cons hk

theorem lex_sound {P : Program} {ops : List Oper} {need : Nat → Bool} {Q : Exit → Act → World → Prop} : ∀ (t : XT) (k : Nat) (a : Act) (w : World), lexT ops.length t k = true →
    XW P ops none need (Q .normal) t a w → wpList P ops.toArray Q (ops.drop k) a w
  | .done, k, a, w, hk, h => by
    have : k = ops.length := by simpa [lexT] using hk
    subst this
    simpa [wpList, XW] using h
  | .q i t, k, a, w, hk, h => by
    simp only [lexT, Bool.and_eq_true] at hk
    obtain ⟨hik, hk⟩ := hk
    obtain rfl := Nat.eq_of_beq_eq_true hik
    obtain ⟨o, ho, h⟩ := h
    rw [drop_nth ho]
    simp only [wpList]
    rcases h with ⟨hw, v, hq, hK⟩ | ⟨hw, hK⟩
    · unfold want at hw
      rw [if_pos hw]
      left
      unfold Oper.wp
      rw [hq w rfl]
      exact lex_sound t _ _ _ hk hK
    · unfold want at hw
      rw [if_neg (by rw [hw]; simp)]
      exact lex_sound t _ _ _ hk hK
  | .h i t, k, a, w, hk, h => by
    simp only [lexT, Bool.and_eq_true] at hk
    obtain ⟨hik, hk⟩ := hk
    obtain rfl := Nat.eq_of_beq_eq_true hik
    obtain ⟨o, ho, h⟩ := h
    rw [drop_nth ho]
    simp only [wpList]
    rcases h with ⟨hw, hK⟩ | ⟨hw, hK⟩
    · unfold want at hw
      rw [if_pos hw]
      left
      exact wp_of_hup (hup_mono (fun a w h => lex_sound t _ _ _ hk h.2) hK)
    · unfold want at hw
      rw [if_neg (by rw [hw]; simp)]
      exact lex_sound t _ _ _ hk hK
  | .br .., k, a, w, hk, h => by simp [lexT] at hk

theorem wp_lex {P : Program} {ops : List Oper} {need : Nat → Bool} {Q : Exit → Act → World → Prop} {id : Nat} {a : Act} {w : World} (t : XT) (ht : lexT ops.length t 0 = true)
    (h : XW P ops none need (Q .normal) t a w) : (Code.region id ops.toArray false).wp P Q a w :=
  wp_region_lit (by simpa using lex_sound t 0 a w ht h)

end Go.GW
