/- Own words, part I: small rules, slices of bytes, structs that are built. -/
import Derived.Test.YtcchamnagcpaiaaGwH
set_option linter.unusedVariables false
set_option linter.unusedSimpArgs false
namespace Go.GW
open Go

theorem ltb {a b : Nat} (h : Nat.blt a b = true) : a < b := by simpa [Nat.blt_eq] using h
theorem leb {a b : Nat} (h : Nat.ble a b = true) : a ≤ b := by simpa [Nat.ble_eq] using h

section
variable {P : Program} {n : Nat} {B : Base} {k : List Kont} {ops : List Oper} {C : Option (Res × Hp)} {need : Nat → Bool} {t : XT} {e : Env} {S : Res} {H : Hp}
variable {i d : Nat} {ty : TypeId} {pos : String} {af : Array Edge} {g : Option (Nat × Bool)} {T : TypeId} {x y : Operand}

theorem ew_tru {c : Operand} {x y : Code} {b : Bool} (hc : opv e c = some (.b b)) (hb : b = true) (h : EW P n B x k e S H) : EW P n B (.cond c x y) k e S H := by
  subst hb; exact ew_true hc h
theorem ew_fls {c : Operand} {x y : Code} {b : Bool} (hc : opv e c = some (.b b)) (hb : b = false) (h : EW P n B y k e S H) : EW P n B (.cond c x y) k e S H := by
  subst hb; exact ew_false hc h
theorem x_T {b : Bool} (h : b = true) (hk : XD P n B ops C need k t ((d, .b true) :: e) S H) : XD P n B ops C need k t ((d, .b b) :: e) S H := by subst h; exact hk
theorem x_F {b : Bool} (h : b = false) (hk : XD P n B ops C need k t ((d, .b false) :: e) S H) : XD P n B ops C need k t ((d, .b b) :: e) S H := by subst h; exact hk
/-- the newest slot's value, written otherwise -/
theorem x_v {v v' : SV} (h : v = v') (hk : XD P n B ops C need k t ((d, v') :: e) S H) : XD P n B ops C need k t ((d, v) :: e) S H := by subst h; exact hk
theorem x_S {S' : Res} (h : S = S') (hk : XD P n B ops C need k t e S' H) : XD P n B ops C need k t e S H := by subst h; exact hk
theorem x_perm {S' : Res} (h : S.Perm S') (hk : XD P n B ops C need k t e S' H) : XD P n B ops C need k t e S H := fun hdo a w he hw => hk hdo a w he (hw.perm h)
theorem ew_S {c : Code} {S' : Res} (h : S = S') (hk : EW P n B c k e S' H) : EW P n B c k e S H := by subst h; exact hk
theorem nk_S {S' : Res} (h : S = S') (hk : NK P n B k e S' H) : NK P n B k e S H := by subst h; exact hk
theorem x_br {i j : Nat} {t u : XT} (h1 : XD P n B ops C need k (.h i t) e S H) (h2 : XD P n B ops C need k (.h j u) e S H) : XD P n B ops C need k (.br i t j u) e S H :=
  fun hdo a w he hw => ⟨h1 hdo a w he hw, h2 hdo a w he hw⟩

theorem At.consNil {w : World} (t' : TypeId) (hw : At B S H w) : At B (.own none t' [] 0 :: S) H w := by
  have hd : Res.dom (Chunk.own none t' [] 0 :: S) = Res.dom S := by simp [Res.dom, Chunk.dom]
  exact ⟨hw.same, hw.size, hw.frame, fun c hc => by
    rcases List.mem_cons.1 hc with rfl | hc
    · exact ⟨rfl, rfl⟩
    · exact hw.res c hc, by rw [hd]; exact hw.nd, hw.hp, by rw [hd]; exact hw.dis, by rw [hd]; exact hw.fresh, hw.le, hw.hfresh⟩

theorem x_nil (t' : TypeId) (hk : XD P n B ops C need k t e (.own none t' [] 0 :: S) H) : XD P n B ops C need k t e S H :=
  fun hdo a w he hw => hk hdo a w he (hw.consNil t')
theorem ew_nil {c : Code} (t' : TypeId) (hk : EW P n B c k e (.own none t' [] 0 :: S) H) : EW P n B c k e S H := fun a w he hw => hk a w he (hw.consNil t')
theorem nk_nil (t' : TypeId) (hk : NK P n B k e (.own none t' [] 0 :: S) H) : NK P n B k e S H := fun a w he hw => hk a w he (hw.consNil t')

theorem keepL_sub (S : Res) (L : List Nat) : ∀ c ∈ keepL S L, c ∈ S := by
  induction L with
  | nil => intro c hc; cases hc
  | cons j r ih =>
    intro c hc
    unfold keepL at hc
    split at hc
    · rename_i d hd
      rcases List.mem_cons.1 hc with rfl | hc
      · exact List.mem_of_getElem? (nth_get hd)
      · exact ih c hc
    · exact ih c hc

def mkE {ι : Type} (C : Env) (V : ι → Env) : ι → Env := fun i => V i ++ C
def mkS {ι : Type} (C : Res) (_ : ι → Res) : ι → Res := fun _ => C

theorem allOne {l : List SV} (h : l.all SV.one = true) : ∀ c ∈ l, c.one = true := fun c hc => List.all_eq_true.1 h c hc

/-- a code that comes to its end, and what stands behind it, by what holds between them -/
theorem ew_join {c : Code} {ι : Type} (E : ι → Env) (S' : ι → Res) (G : ι → Hp → Prop) (h1 : EW P n B c (.inv (fun a w => ∃ j, LoopI n B E S' G j a w) :: k) e S H)
    (h2 : ∀ j H', G j H' → NK P n B k (E j) (S' j) H') : EW P n B c k e S H := by
  intro a w he hw
  refine wp_mono (h1 a w he hw) fun ex a' w' hq => ?_
  cases ex with
  | normal =>
    obtain ⟨j, hj1, H', hj2, hj3⟩ := hq
    exact h2 j H' hj3 a' w' hj1 hj2
  | exit id => exact hq
  | goto l => exact hq
  | ret => exact hq
  | panic c => exact hq
  | outgrown => exact hq

theorem nk_join {ι : Type} {E : ι → Env} {S' : ι → Res} {G : ι → Hp → Prop} (j : ι) (he : Sub e (E j)) (hS : S = S' j) (hG : G j H) : NK P n B (.inv (fun a w => ∃ j, LoopI n B E S' G j a w) :: k) e S H :=
  nk_inv fun _ _ hh hw => ⟨j, hh.sub he, H, hS ▸ hw, hG⟩

/-! ### what was public may be forgotten at the end -/
theorem At.shrink {w : World} {H0 : Hp} (hw : At B S H w) (hB : B.H = H0) : At B S H0 w := by
  subst hB
  exact ⟨hw.same, hw.size, hw.frame, hw.res, hw.nd, fun g o ho => hw.hp g o (hw.le g o ho), (fun g hg => by
    cases hH : B.H g with
    | none => rfl
    | some o => have := hw.le g o hH; rw [hw.dis g hg] at this; cases this), hw.fresh, fun _ _ e => e, fun _ _ e => .inl e⟩
theorem ew_shrink {c : Code} {H0 : Hp} (hB : B.H = H0) (h : EW P n B c k e S H0) : EW P n B c k e S H := fun a w he hw => h a w he (hw.shrink hB)
theorem nk_shrink {H0 : Hp} (hB : B.H = H0) (h : NK P n B k e S H0) : NK P n B k e S H := fun a w he hw => h a w he (hw.shrink hB)

/-! ### slices of bytes -/
structure BS (H : Hp) (A : Option Addr) (n c : Nat) (xs : List UInt8) : Prop where
  rr : RR H A (xs.map SV.u8)
  len : xs.length = n
  cap : n ≤ c

theorem BS.mono {H H' : Hp} {A : Option Addr} {n c : Nat} {xs : List UInt8} (h : BS H A n c xs) (hle : HLe H H') : BS H' A n c xs := ⟨h.rr.mono hle, h.len, h.cap⟩
theorem BS.ne {H : Hp} {A : Option Addr} {n c : Nat} {xs : List UInt8} (h : BS H A n c xs) (h0 : 0 < n) : A.isSome = true := h.rr.isSome (by rw [List.length_map, h.len]; exact h0)
theorem BS.cell {H : Hp} {A : Option Addr} {n c : Nat} {xs : List UInt8} (h : BS H A n c xs) {j : Nat} (hj : j < n) : cellH H (eaddr A j) = some (SV.u8 (xs.getD j 0)).val := by
  have hl : j < xs.length := by rw [h.len]; exact hj
  refine h.rr.cell (j := j) ?_
  simp [hl]
theorem BS.nil {H : Hp} {A : Option Addr} {c : Nat} : BS H A 0 c [] := ⟨.nil, rfl, Nat.zero_le _⟩
theorem BS.drop {H : Hp} {A : Option Addr} {n c : Nat} {xs : List UInt8} (h : BS H A n c xs) {L : Nat} (hL : L ≤ n) : BS H (cutA A c L 1) (n - L) (c - L) (xs.drop L) := by
  refine ⟨?_, by rw [List.length_drop, h.len], by have := h.cap; omega⟩
  rw [List.map_drop]
  exact h.rr.cut1 (by rw [List.length_map, h.len]; exact h.cap)
theorem BS.take {H : Hp} {A : Option Addr} {n c : Nat} {xs : List UInt8} (h : BS H A n c xs) {m : Nat} (hm : m ≤ n) : BS H A m c (xs.take m) := by
  refine ⟨?_, by rw [List.length_take, h.len]; omega, by have := h.cap; omega⟩
  rw [List.map_take]
  exact h.rr.take m
theorem BS.recap {H : Hp} {A : Option Addr} {n c c' : Nat} {xs : List UInt8} (h : BS H A n c xs) (hc : n ≤ c') : BS H A n c' xs := ⟨h.rr, h.len, hc⟩
theorem BS.of {H : Hp} {A : Option Addr} {n c : Nat} {xs : List UInt8} (h : RR H A (xs.map SV.u8)) (hl : xs.length = n) (hc : n ≤ c) : BS H A n c xs := ⟨h, hl, hc⟩

/-! ### structs that are built -/
def okc : SV → Bool
  | .agg _ => true
  | x => x.one
theorem okc_val {sv : SV} (h : okc sv = true) : sv.val.cells = ⟨SV.vals sv.cells⟩ := by
  cases sv <;> first | rfl | (exact SV.cells_val (.inl h))

def fillS : List SV → List (Nat × Nat) → List (Nat × SV) → Option (List SV)
  | zs, _, [] => some zs
  | zs, pl, (j, sv) :: r => match nth pl j with
    | some (off, sz) => cond (Nat.beq sv.cells.length sz && Nat.ble (off + sz) zs.length && okc sv) (fillS (putL zs off sv.cells) pl r) none
    | none => none

theorem foldl_put (o : Nat) : ∀ (l : List Value) (b : Nat) (cells : Array Value), o + b + l.length ≤ cells.size →
    ((l.zipIdx b).foldl (fun cs (p : Value × Nat) => cs.setIfInBounds (o + p.2) p.1) cells).toList = cells.toList.take (o + b) ++ l ++ cells.toList.drop (o + b + l.length)
  | [], b, cells, _ => by simp
  | u :: l, b, cells, hle => by
    simp only [List.zipIdx_cons, List.foldl_cons, List.length_cons] at hle ⊢
    rw [foldl_put o l (b + 1) _ (by simp; omega)]
    rw [Array.toList_setIfInBounds, show o + (b + 1) = (o + b) + 1 by omega]
    have := list_seg_step cells.toList (o + b) u l (by simp; omega)
    simpa [Nat.add_assoc, Nat.add_comm 1] using this

theorem fillS_spec {places : Nat → Option (Nat × Nat)} {pl : List (Nat × Nat)} (hpl : ∀ j p, nth pl j = some p → places j = some p) : ∀ (ps : List (Nat × SV)) (zs cs : List SV), fillS zs pl ps = some cs →
    Instr.fill places ⟨SV.vals zs⟩ (ps.map fun p => (p.1, p.2.val)) = some ⟨SV.vals cs⟩
  | [], zs, cs, h => by simp only [fillS, Option.some.injEq] at h; subst h; rfl
  | (j, sv) :: r, zs, cs, h => by
    simp only [fillS] at h
    split at h
    · rename_i off sz hj
      cases hc : (Nat.beq sv.cells.length sz && Nat.ble (off + sz) zs.length && okc sv) with
      | false => rw [hc] at h; cases h
      | true =>
        rw [hc] at h
        simp only [cond_true] at h
        simp only [Bool.and_eq_true] at hc
        have h1 := Nat.eq_of_beq_eq_true hc.1.1
        have h2 : off + sz ≤ zs.length := by simpa [Nat.ble_eq] using hc.1.2
        have hcv := okc_val hc.2
        simp only [List.map_cons, Instr.fill, hpl j _ hj]
        rw [hcv]
        rw [if_neg (by simp [vals_length]; omega)]
        have e1 : (⟨SV.vals sv.cells⟩ : Array Value).zipIdx.foldl (fun (cs : Array Value) (x : Value × Nat) => match x with | (c, q) => cs.setIfInBounds (off + q) c) ⟨SV.vals zs⟩ = ⟨SV.vals (putL zs off sv.cells)⟩ := by
          apply Array.ext'
          have h3 := foldl_put off (SV.vals sv.cells) 0 ⟨SV.vals zs⟩ (by simp [vals_length]; omega)
          have h4 : (⟨SV.vals sv.cells⟩ : Array Value).zipIdx.foldl (fun (cs : Array Value) (x : Value × Nat) => match x with | (c, q) => cs.setIfInBounds (off + q) c) ⟨SV.vals zs⟩ = ((SV.vals sv.cells).zipIdx 0).foldl (fun cs (p : Value × Nat) => cs.setIfInBounds (off + p.2) p.1) ⟨SV.vals zs⟩ := by simp
          rw [h4, h3, putL_spec _ _ _ (by omega)]
          simp [vals_append, vals_take, vals_drop, vals_length]
        rw [e1]
        exact fillS_spec hpl r _ cs h
    · cases h

structure BF (P : Program) (T : TypeId) (zs : List SV) (pl : List (Nat × Nat)) : Prop where
  run : ∀ (ps : List (Nat × SV)) (cs : List SV), fillS zs pl ps = some cs → ∀ w, (Instr.build T (ps.map fun p => (p.1, p.2.val)).toArray).run P w = .ok (.agg ⟨SV.vals cs⟩) w

theorem BF.of {zs : List SV} {pl : List (Nat × Nat)} {z : Value} {fs : Array Field} (hz : ∀ w, (zeroValue T).run P w = .ok z w) (hzs : z.cells = ⟨SV.vals zs⟩) (hT : P.underlying T = some (.struct fs))
    (hpl : ∀ w, (fs.mapM fun f => do pure (f.offset, ← sizeOf f.type) : Sem (Array (Nat × Nat))).run P w = .ok ⟨pl⟩ w) : BF P T zs pl := by
  refine ⟨fun ps cs h w => ?_⟩
  have h1 := fillS_spec (places := fun j => (⟨pl⟩ : Array (Nat × Nat))[j]?) (pl := pl) (fun j p hj => by rw [nth_eq] at hj; simpa using hj) ps zs cs h
  have h2 : (Instr.fill (fun j => (⟨pl⟩ : Array (Nat × Nat))[j]?) ⟨SV.vals zs⟩ (ps.map fun p => (p.1, p.2.val))) = some ⟨SV.vals cs⟩ := h1
  simp only [Instr.build, Sem.run_bind, hz w, Result.andThen_ok, run_underlying hT]
  simp only [hpl w, Result.andThen_ok, hzs]
  rw [h2]
  rfl

/-- an array -/
theorem BF.ofA {zs : List SV} {len el sz : Nat} {pl : List (Nat × Nat)} {z : Value} (hz : ∀ w, (zeroValue T).run P w = .ok z w) (hzs : z.cells = ⟨SV.vals zs⟩) (hT : P.underlying T = some (.array len el)) (hs : ∀ w, (sizeOf el).run P w = .ok sz w)
    (hpl : pl = (List.range len).map fun i => (i * sz, sz)) : BF P T zs pl := by
  refine ⟨fun ps cs h w => ?_⟩
  have h1 := fillS_spec (places := fun i => some (i * sz, sz)) (pl := pl) (fun j p hj => by
    rw [nth_eq, hpl, List.getElem?_map] at hj
    cases hq : (List.range len)[j]? with
    | none => rw [hq] at hj; cases hj
    | some q =>
      rw [hq] at hj
      have hq2 : q = j := by
        have := (List.getElem?_eq_some_iff.1 hq).2
        simpa using this.symm
      simp only [Option.map_some, Option.some.injEq] at hj
      rw [← hj, hq2]) ps zs cs h
  simp only [Instr.build, Sem.run_bind, hz w, Result.andThen_ok, run_underlying hT]
  simp only [hs w, Result.andThen_ok, hzs]
  rw [h1]
  rfl

theorem FA.of2 {f off ft sz : Nat} {l : List Field} {fl : Field} (hT : P.underlying T = some (.struct ⟨l⟩)) (hf : nth l f = some fl) (ht : fl.type = ft) (ho : fl.offset = off) (hz : ∀ w, (sizeOf ft).run P w = .ok sz w) (h0 : sz ≠ 0) : FA P T f off := by
  subst ht ho
  refine FA.of hT (fl := fl) ?_ hz h0
  have := nth_get hf
  simpa using this

def opvp (e : Env) : List (Nat × Operand) → Option (List (Nat × SV))
  | [] => some []
  | (j, x) :: r => match opv e x, opvp e r with
    | some v, some vs => some ((j, v) :: vs)
    | _, _ => none

theorem Holds.opvp {a : Act} (h : Holds n e a) : ∀ {l : List (Nat × Operand)} {ps : List (Nat × SV)}, GW.opvp e l = some ps → l.map (fun p => (p.1, a.eval p.2)) = ps.map fun p => (p.1, p.2.val)
  | [], ps, hx => by simp only [GW.opvp, Option.some.injEq] at hx; subst hx; rfl
  | (j, x) :: r, ps, hx => by
    simp only [GW.opvp] at hx
    split at hx
    · rename_i v vs h1 h2
      simp only [Option.some.injEq] at hx
      subst hx
      simp [h.opv h1, Holds.opvp h h2]
    · cases hx

theorem q_bld {parts : Array (Nat × Operand)} {zs : List SV} {pl : List (Nat × Nat)} {ps : List (Nat × SV)} {cs : List SV} (hB : BF P T zs pl) (ho : nth ops i = some ⟨some d, .build T parts, ty, pos, af, g⟩) (hg : gok ops e g = some true) (hp : opvp e parts.toList = some ps) (hf : fillS zs pl ps = some cs)
    (hk : XD P n B ops C need k t ((d, .agg cs) :: e) S H) : XD P n B ops C need k (.q i t) e S H :=
  xqq ho hg (fun a w' he _ => by
    have h1 := he.opvp hp
    have h2 : parts.map (fun p => (p.1, a.eval p.2)) = (ps.map fun p => (p.1, p.2.val)).toArray := by apply Array.ext'; simpa using h1
    have h3 := hB.run ps cs hf w'
    simp only [execOp, SV.val]
    have h4 : (parts.map fun (x : Nat × Operand) => match x with | (i, x) => (i, a.eval x)) = (ps.map fun p => (p.1, p.2.val)).toArray := h2
    rw [h4]
    simp [h3]) hk

end
end Go.GW
