/- Own words, part K: append from an owned row; slices of slices of bytes. -/
import Derived.Test.YtcchamnagcpaiaaGwI
set_option linter.unusedVariables false
set_option linter.unusedSimpArgs false
namespace Go.GW
open Go

theorem At.forget {B : Base} {S S0 : Res} {H H1 : Hp} {w w0 : World} (hw1 : At B S H1 w) (hw : At B S0 H w0) (hle : HLe H H1) : At B S H w :=
  ⟨hw1.same, hw1.size, hw1.frame, hw1.res, hw1.nd, fun g o ho => hw1.hp g o (hle g o ho), (fun g hg => by
    cases hH : H g with
    | none => rfl
    | some o => have := hle g o hH; rw [hw1.dis g hg] at this; cases this), hw1.fresh, hw.le, hw.hfresh⟩

section
variable {P : Program} {n : Nat} {B : Base} {k : List Kont} {ops : List Oper} {C : Option (Res × Hp)} {need : Nat → Bool} {t : XT} {e : Env} {S : Res} {H : Hp}
variable {i d : Nat} {ty : TypeId} {pos : String} {af : Array Edge} {g : Option (Nat × Bool)} {T : TypeId} {x y : Operand}

/-- append(s, src...), both owned; src is owned no longer -/
theorem h_appO {el : TypeId} {inf : TypeInfo} {z : Value} {sz m m2 : Nat} {A A2 : Option Addr} {l c l2 c2 : Nat} {cs news : List SV} {S1 : Res} (k2 kk : Nat) (hT : P.underlying T = some (.slice el)) (hi : P.info? el = some inf) (hz : inf.zero = some z) (hzs : z.cells.size = inf.size) (hsz : inf.size = sz) (h0 : 0 < sz)
    (ho : nth ops i = some ⟨some d, .call ⟨.builtin .append, #[x, y], #[T, T]⟩, ty, pos, af, g⟩) (hg : gok ops e g = some true) (hx : opv e x = some (.sl A l c)) (hy : opv e y = some (.sl A2 l2 c2))
    (hb2 : nth S k2 = some (.own A2 el news m2)) (hS1 : S.eraseIdx k2 = S1) (hb : nth S1 kk = some (.own A el cs m)) (hm : m = c * sz) (hl : cs.length = l * sz) (hlc : l ≤ c) (hl2 : news.length = l2 * sz) (h1 : ∀ s ∈ news, s.one = true) (hby : (l + l2) * inf.bytes ≤ 140737488355328) (h63 : l + l2 ≤ 9223372036854775807)
    (hk : ∀ A' c', l + l2 ≤ c' → (need i = true → KP C (putAt S1 kk (.own A' el (cs ++ news) (c' * sz))) H) ∧ XD P n B ops C need k t ((d, .sl A' (l + l2) c') :: e) (putAt S1 kk (.own A' el (cs ++ news) (c' * sz))) H) : XD P n B ops C need k (.h i t) e S H :=
  hval ho hg fun a w he hw => by
    subst hsz hm hS1
    obtain ⟨H1, hle, hrr, hw1⟩ := hw.pub hb2
    obtain ⟨A', c', w', hr, hc', hA⟩ := run_app (P := P) (T := T) (ty := ty) hw1 hT hi hz hzs h0 hb hl hlc (c2 := c2) hrr hl2 h1 hby h63
    refine ⟨.sl A' (l + l2) c', _, H, w', ?_, hA.forget hw hle, (hk A' c' hc').1, (hk A' c' hc').2⟩
    simp only [execOp, resolve]
    simp [he.opv hx, he.opv hy, SV.val, invoke, builtin, hr]

end

theorem kpL {S0 S' : Res} {L : List Nat} (L' : List Nat) (h : keepL S0 L = keepL S' L') : ∀ c ∈ keepL S0 L, c ∈ S' := h ▸ keepL_sub S' L'

theorem x_own {P : Program} {n : Nat} {B : Base} {k : List Kont} {ops : List Oper} {C : Option (Res × Hp)} {need : Nat → Bool} {t : XT} {e : Env} {S : Res} {H : Hp} {A : Option Addr} {tt : TypeId} {cs : List SV} {m : Nat} (kk : Nat)
    (hb : nth S kk = some (.own A tt cs m)) (h0 : 0 < cs.length) (hk : A.isSome = true → XD P n B ops C need k t e S H) : XD P n B ops C need k t e S H :=
  fun hdo a w he hw => by
    cases A with
    | some a' => exact hk rfl hdo a w he hw
    | none =>
      have h2 := hw.res _ (List.mem_of_getElem? (nth_get hb))
      obtain ⟨h3, _⟩ := h2
      subst h3
      simp at h0

theorem range_keep : ∀ (S : Res) (k : Nat) (S0 : Res), (∀ j, nth S j = nth S0 (k + j)) → keepL S0 (List.range' k S.length) = S
  | [], _, _, _ => rfl
  | c :: r, k, S0, h => by
    have h0 := h 0
    simp only [nth, Nat.add_zero] at h0
    have ih := range_keep r (k + 1) S0 (fun j => by have := h (j + 1); simp only [nth] at this; rw [this]; congr 1; omega)
    simp only [List.length_cons, List.range'_succ, keepL, ← h0, ih]

theorem keepL_eq (S : Res) (L : List Nat) : keepL S L = L.filterMap (nth S) := by
  induction L with
  | nil => rfl
  | cons j r ih =>
    simp only [keepL, List.filterMap_cons]
    cases nth S j <;> simp [ih]

/-- the chunks in another order -/
theorem permL {S : Res} (L : List Nat) (h : L.isPerm (List.range S.length) = true) : S.Perm (keepL S L) := by
  have h1 : L.Perm (List.range S.length) := List.isPerm_iff.1 h
  have h2 := h1.filterMap (nth S)
  rw [← keepL_eq, ← keepL_eq, List.range_eq_range', range_keep S 0 S (fun j => by rw [Nat.zero_add])] at h2
  exact h2.symm

theorem bs_zero {H : Hp} {A : Option Addr} {k c : Nat} (h : RR H A (List.replicate k (SV.u8 0))) (hc : k ≤ c) : BS H A k c (List.replicate k 0) :=
  ⟨by rw [List.map_replicate]; exact h, by simp, hc⟩

/-- a Bool in a slot: both ways -/
theorem Holds.shadow {n d : Nat} {e : Env} {a : Act} {sv : SV} (h : Holds n e a) (hd : lk e d = some sv) : Holds n ((d, sv) :: e) a := by
  refine ⟨h.defers, h.size, fun t x hx => ?_⟩
  simp only [lk] at hx
  cases hb : Nat.beq d t with
  | false => rw [hb] at hx; exact h.at_ t x hx
  | true =>
    rw [hb] at hx
    have hx' : sv = x := Option.some.inj hx
    subst hx'
    have hdt := Nat.eq_of_beq_eq_true hb
    subst hdt
    exact h.at_ d sv hd
theorem x_spl {P : Program} {n : Nat} {B : Base} {k : List Kont} {ops : List Oper} {C : Option (Res × Hp)} {need : Nat → Bool} {t : XT} {e : Env} {S : Res} {H : Hp} {d : Nat} {b : Bool} (hd : lk e d = some (.b b))
    (h1 : b = true → XD P n B ops C need k t ((d, .b true) :: e) S H) (h2 : b = false → XD P n B ops C need k t ((d, .b false) :: e) S H) : XD P n B ops C need k t e S H :=
  fun hdo a w he hw => by
    cases b with
    | true => exact h1 rfl hdo a w (he.shadow hd) hw
    | false => exact h2 rfl hdo a w (he.shadow hd) hw

/-! ### slices of slices of bytes -/
structure Sli where
  A : Option Addr
  n : Nat
  c : Nat
  xs : List UInt8

instance : Inhabited Sli := ⟨⟨none, 0, 0, []⟩⟩

def Sli.sv (s : Sli) : SV := .sl s.A s.n s.c
def Sli.ok (H : Hp) (s : Sli) : Prop := BS H s.A s.n s.c s.xs

structure BSS (H : Hp) (A : Option Addr) (n c : Nat) (ps : List Sli) : Prop where
  rr : RR H A (ps.map Sli.sv)
  len : ps.length = n
  cap : n ≤ c
  each : ∀ p ∈ ps, p.ok H

theorem BSS.mono {H H' : Hp} {A : Option Addr} {n c : Nat} {ps : List Sli} (h : BSS H A n c ps) (hle : HLe H H') : BSS H' A n c ps := ⟨h.rr.mono hle, h.len, h.cap, fun p hp => BS.mono (h.each p hp) hle⟩
theorem BSS.ne {H : Hp} {A : Option Addr} {n c : Nat} {ps : List Sli} (h : BSS H A n c ps) (h0 : 0 < n) : A.isSome = true := h.rr.isSome (by rw [List.length_map, h.len]; exact h0)
theorem BSS.cell {H : Hp} {A : Option Addr} {n c : Nat} {ps : List Sli} (h : BSS H A n c ps) {j : Nat} (hj : j < n) : cellH H (eaddr A j) = some (SV.val (.sl (ps.getD j default).A (ps.getD j default).n (ps.getD j default).c)) := by
  have hl : j < ps.length := by rw [h.len]; exact hj
  refine h.rr.cell (j := j) ?_
  simp [hl, Sli.sv]
theorem BSS.at_ {H : Hp} {A : Option Addr} {n c : Nat} {ps : List Sli} (h : BSS H A n c ps) {j : Nat} (hj : j < n) : BS H (ps.getD j default).A (ps.getD j default).n (ps.getD j default).c (ps.getD j default).xs := by
  have hl : j < ps.length := by rw [h.len]; exact hj
  have : ps.getD j default = ps[j] := by simp [hl]
  rw [this]
  exact h.each _ (List.getElem_mem hl)
theorem BSS.nil {H : Hp} {A : Option Addr} {c : Nat} : BSS H A 0 c [] := ⟨.nil, rfl, Nat.zero_le _, by simp⟩
theorem BSS.of {H : Hp} {A : Option Addr} {n c : Nat} {ps : List Sli} {cs : List SV} (h : RR H A cs) (hcs : cs = ps.map Sli.sv) (hl : ps.length = n) (hc : n ≤ c) (he : ∀ p ∈ ps, p.ok H) : BSS H A n c ps := ⟨hcs ▸ h, hl, hc, he⟩

def catB (ps : List Sli) : List UInt8 := ps.flatMap (·.xs)
theorem catB_snoc (ps : List Sli) (k : Nat) (h : k < ps.length) : catB (ps.take (k + 1)) = catB (ps.take k) ++ (ps.getD k default).xs := by
  unfold catB
  rw [List.take_succ_eq_append_getElem h, List.flatMap_append]
  simp [h]
theorem catB_take_le (ps : List Sli) (k : Nat) : (catB (ps.take k)).length ≤ (catB ps).length := by
  have : catB ps = catB (ps.take k) ++ catB (ps.drop k) := by unfold catB; rw [← List.flatMap_append, List.take_append_drop]
  rw [this, List.length_append]
  omega

end Go.GW
