/- Own words: acts on keepers, as law 14 has them; slices of acts, slices of anchors. -/
import Derived.Test.YtcchamnagcpaiaaLawC
namespace Go.GW
open Go

/-- an act -/
structure Act14 where
  kind : Int
  a : An
  e : Int
  rt : Int
  pe : Int
  n : Int
  dn : Bool
instance : Inhabited An := ⟨zeroAn⟩
instance : Inhabited Act14 := ⟨⟨0, zeroAn, 0, 0, 0, 0, false⟩⟩
def Act14.cells (o : Act14) : List SV := [.i o.kind, .i o.a.seq, .i o.a.epoch, .i o.a.given_, .i o.a.root, .i o.a.rep, .i o.a.pending, .sl o.a.m.A o.a.m.n o.a.m.c, .sl o.a.A o.a.n o.a.c, .i o.e, .i o.rt, .i o.pe, .i o.n, .b o.dn]

/-- a row of structs, each of z cells -/
theorem rows_get {α : Type} (z : Nat) (C : α → List SV) (hz : ∀ x, (C x).length = z) (d : α) : ∀ (l : List α) {j i : Nat} {sv : SV}, j < l.length → (C (l.getD j d))[i]? = some sv → (l.flatMap C)[j * z + i]? = some sv
  | [], _, _, _, h, _ => absurd h (by simp)
  | k :: r, 0, i, sv, _, h => by
    have hi : i < z := by
      have := (List.getElem?_eq_some_iff.1 h).1
      rw [hz] at this
      exact this
    simp only [List.flatMap_cons]
    rw [List.getElem?_append_left (by rw [hz]; omega)]
    simpa using h
  | k :: r, j + 1, i, sv, hj, h => by
    simp only [List.flatMap_cons]
    have e : (j + 1) * z + i = z + (j * z + i) := by rw [Nat.add_mul]; omega
    rw [List.getElem?_append_right (by rw [hz]; omega), hz, e, Nat.add_sub_cancel_left]
    exact rows_get z C hz d r (by simpa using hj) (by simpa using h)
theorem rows_len {α : Type} (z : Nat) (C : α → List SV) (hz : ∀ x, (C x).length = z) : ∀ (l : List α), (l.flatMap C).length = l.length * z
  | [] => by simp
  | k :: r => by rw [List.flatMap_cons, List.length_append, hz, rows_len z C hz r, List.length_cons, Nat.add_mul]; omega

structure OS (H : Hp) (A : Option Addr) (n c : Nat) (os : List Act14) : Prop where
  rr : RR H A (os.flatMap Act14.cells)
  len : os.length = n
  cap : n ≤ c
  each : ∀ o ∈ os, An.raw H o.a
  num : ∀ o ∈ os, o.n ≤ 9223372036854775807
theorem OS.mono {H H' : Hp} {A : Option Addr} {n c : Nat} {os : List Act14} (h : OS H A n c os) (hle : HLe H H') : OS H' A n c os := ⟨h.rr.mono hle, h.len, h.cap, fun o ho => (h.each o ho).mono hle, h.num⟩
theorem OS.ne {H : Hp} {A : Option Addr} {n c : Nat} {os : List Act14} (h : OS H A n c os) (h0 : 0 < n) : A.isSome = true := h.rr.isSome (by rw [rows_len 14 Act14.cells (fun _ => rfl), h.len]; omega)
theorem OS.get {H : Hp} {A : Option Addr} {n c : Nat} {os : List Act14} (h : OS H A n c os) {j : Nat} (hj : j < n) : ∀ i sv, (os.getD j default).cells[i]? = some sv → cellH H ((eaddr A (j * 14)).add i) = some sv.val := by
  intro i sv hs
  have := h.rr.cell (rows_get 14 Act14.cells (fun _ => rfl) default os (by rw [h.len]; exact hj) hs)
  rw [eaddr_add]
  exact this
theorem OS.at_ {H : Hp} {A : Option Addr} {n c : Nat} {os : List Act14} (h : OS H A n c os) {j : Nat} (hj : j < n) : An.raw H (os.getD j default).a := by
  have hl : j < os.length := by rw [h.len]; exact hj
  have : os.getD j default = os[j] := by simp [hl]
  rw [this]
  exact h.each _ (List.getElem_mem hl)

theorem OS.num_ {H : Hp} {A : Option Addr} {n c : Nat} {os : List Act14} (h : OS H A n c os) {j : Nat} (hj : j < n) : (os.getD j default).n ≤ 9223372036854775807 := by
  have hl : j < os.length := by rw [h.len]; exact hj
  have : os.getD j default = os[j] := by simp [hl]
  rw [this]
  exact h.num _ (List.getElem_mem hl)

structure AS (H : Hp) (A : Option Addr) (n c : Nat) (l : List An) : Prop where
  rr : RR H A (l.flatMap An.cells)
  len : l.length = n
  cap : n ≤ c
  each : ∀ a ∈ l, An.raw H a
theorem AS.mono {H H' : Hp} {A : Option Addr} {n c : Nat} {l : List An} (h : AS H A n c l) (hle : HLe H H') : AS H' A n c l := ⟨h.rr.mono hle, h.len, h.cap, fun o ho => (h.each o ho).mono hle⟩
theorem AS.ne {H : Hp} {A : Option Addr} {n c : Nat} {l : List An} (h : AS H A n c l) (h0 : 0 < n) : A.isSome = true := h.rr.isSome (by rw [rows_len 8 An.cells (fun _ => rfl), h.len]; omega)
theorem AS.get {H : Hp} {A : Option Addr} {n c : Nat} {l : List An} (h : AS H A n c l) {j : Nat} (hj : j < n) : ∀ i sv, (l.getD j default).cells[i]? = some sv → cellH H ((eaddr A (j * 8)).add i) = some sv.val := by
  intro i sv hs
  have := h.rr.cell (rows_get 8 An.cells (fun _ => rfl) default l (by rw [h.len]; exact hj) hs)
  rw [eaddr_add]
  exact this
theorem AS.at_ {H : Hp} {A : Option Addr} {n c : Nat} {l : List An} (h : AS H A n c l) {j : Nat} (hj : j < n) : An.raw H (l.getD j default) := by
  have hl : j < l.length := by rw [h.len]; exact hj
  have : l.getD j default = l[j] := by simp [hl]
  rw [this]
  exact h.each _ (List.getElem_mem hl)

end Go.GW
