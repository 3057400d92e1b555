/- Own words, part E: addresses, loads, cuts of slices, tuples, aggregates. -/
import Derived.Test.YtcchamnagcpaiaaGwD2
set_option linter.unusedVariables false
set_option linter.unusedSimpArgs false
namespace Go.GW
open Go

/-- a whole number of whatever kind, as an index -/
def ival : SV → Option Int
  | .i v => some v
  | .u8 a => some a.toNat
  | .u16 a => some a.toNat
  | .u32 a => some a.toNat
  | .u64 a => some a.toNat
  | _ => none

theorem ival_spec {sv : SV} {v : Int} (h : ival sv = some v) : ∃ k, sv.val = .int k v := by
  cases sv <;> simp only [ival, Option.some.injEq] at h <;> first | (subst h; exact ⟨_, rfl⟩) | cases h

/-- the j-th cell behind a slice's first -/
def eaddr (A : Option Addr) (j : Nat) : Addr := (A.getD default).add j

/-- a slice's first cell behind a cut -/
def cutA (A : Option Addr) (c L sz : Nat) : Option Addr := if c = L then A else A.map (·.add (L * sz))

/-- a cell of what all may read -/
def cellH (H : Hp) (a : Addr) : Option Value :=
  match H a.block with
  | some (.cells c _ _) => if a.spot.isSome then none else c[a.off]?
  | _ => none

theorem cellH_spec {H : Hp} {w : World} (hH : ∀ g o, H g = some o → w.heap[g]? = some o) {a : Addr} {v : Value} (h : cellH H a = some v) : w.cell? a = some v := by
  unfold cellH at h
  unfold World.cell?
  cases hb : H a.block with
  | none => rw [hb] at h; cases h
  | some o => rw [hb] at h; rw [hH _ _ hb]; exact h

theorem cellH_mono {H H' : Hp} (hH : ∀ g o, H g = some o → H' g = some o) {a : Addr} {v : Value} (h : cellH H a = some v) : cellH H' a = some v := by
  unfold cellH at *
  cases hb : H a.block with
  | none => rw [hb] at h; cases h
  | some o => rw [hb] at h; rw [hH _ _ hb]; exact h

/-- a slice's cells, that all may read -/
def RR (H : Hp) (A : Option Addr) (cs : List SV) : Prop := cs = [] ∨ ∃ a, A = some a ∧ ∀ j sv, cs[j]? = some sv → cellH H (a.add j) = some sv.val

theorem RR.nil {H : Hp} {A : Option Addr} : RR H A [] := .inl rfl
theorem RR.mono {H H' : Hp} {A : Option Addr} {cs : List SV} (h : RR H A cs) (hH : ∀ g o, H g = some o → H' g = some o) : RR H' A cs :=
  h.imp id fun ⟨a, e, hc⟩ => ⟨a, e, fun j sv hj => cellH_mono hH (hc j sv hj)⟩
theorem RR.isSome {H : Hp} {A : Option Addr} {cs : List SV} (h : RR H A cs) (h0 : 0 < cs.length) : A.isSome = true := by
  rcases h with h | ⟨a, e, _⟩
  · rw [h] at h0; simp at h0
  · rw [e]; rfl
theorem RR.cell {H : Hp} {A : Option Addr} {cs : List SV} (h : RR H A cs) {j : Nat} {sv : SV} (hj : cs[j]? = some sv) : cellH H (eaddr A j) = some sv.val := by
  rcases h with h | ⟨a, e, hc⟩
  · rw [h] at hj; simp at hj
  · subst e; exact hc j sv hj

theorem add_add (a : Addr) (i j : Nat) : (a.add i).add j = a.add (i + j) := by
  unfold Addr.add
  by_cases hi : i = 0 <;> by_cases hj : j = 0 <;> simp [hi, hj, Nat.add_assoc]

theorem add_lit (g o j : Nat) : (⟨g, o, none⟩ : Addr).add j = ⟨g, o + j, none⟩ := by
  unfold Addr.add; split <;> simp_all

theorem eaddr_add (A : Option Addr) (i j : Nat) : (eaddr A i).add j = eaddr A (i + j) := add_add _ _ _

theorem eaddr_lit (g o j : Nat) : eaddr (some ⟨g, o, none⟩) j = ⟨g, o + j, none⟩ := add_lit g o j

theorem RR.cut {H : Hp} {A : Option Addr} {cs : List SV} (h : RR H A cs) {c L sz n : Nat} (hn : cs.length = n * sz) (hc : n ≤ c) : RR H (cutA A c L sz) (cs.drop (L * sz)) := by
  rcases h with h | ⟨a, e, hc'⟩
  · left; rw [h]; simp
  · unfold cutA
    by_cases hcl : c = L
    · left
      rw [List.drop_eq_nil_iff, hn]
      exact Nat.mul_le_mul_right _ (by omega)
    · right
      rw [if_neg hcl, e]
      refine ⟨a.add (L * sz), rfl, fun j sv hj => ?_⟩
      rw [add_add]
      rw [List.getElem?_drop] at hj
      exact hc' _ _ hj
theorem RR.cut1 {H : Hp} {A : Option Addr} {cs : List SV} (h : RR H A cs) {c L : Nat} (hc : cs.length ≤ c) : RR H (cutA A c L 1) (cs.drop L) := by
  have := h.cut (c := c) (L := L) (sz := 1) (n := cs.length) (by simp) hc
  simpa using this
theorem RR.take {H : Hp} {A : Option Addr} {cs : List SV} (h : RR H A cs) (m : Nat) : RR H A (cs.take m) := by
  rcases h with h | ⟨a, e, hc⟩
  · left; rw [h]; simp
  · right
    refine ⟨a, e, fun j sv hj => hc j sv ?_⟩
    rw [List.getElem?_take] at hj
    split at hj
    · exact hj
    · cases hj

/-- m cells from the off-th on -/
def part (cs : List SV) (off m : Nat) : List SV := (cs.drop off).take m

/-- the cells of a value -/
def SV.cells : SV → List SV
  | .agg cs => cs
  | x => [x]

/-- is it surely one cell? -/
def SV.one : SV → Bool
  | .agg _ => false
  | .tup _ => false
  | .v _ => false
  | _ => true

theorem SV.cells_val {sv : SV} (h : sv.one = true ∨ ∃ cs, sv = .agg cs) : sv.val.cells = ⟨SV.vals sv.cells⟩ := by
  rcases h with h | ⟨cs, rfl⟩
  · cases sv <;> first | rfl | cases h
  · rfl

theorem vals_length (l : List SV) : (SV.vals l).length = l.length := by rw [vals_eq]; simp
theorem vals_get (l : List SV) (j : Nat) : (SV.vals l)[j]? = (l[j]?).map SV.val := by rw [vals_eq]; simp
theorem vals_append (l r : List SV) : SV.vals (l ++ r) = SV.vals l ++ SV.vals r := by simp [vals_eq]
theorem vals_drop (l : List SV) (k : Nat) : SV.vals (l.drop k) = (SV.vals l).drop k := by simp [vals_eq]
theorem vals_take (l : List SV) (k : Nat) : SV.vals (l.take k) = (SV.vals l).take k := by simp [vals_eq]

theorem nth_get {α : Type} {l : List α} {j : Nat} {x : α} (h : nth l j = some x) : l[j]? = some x := by rw [← nth_eq]; exact h

/-- closed facts on a program's types -/
def FA (P : Program) (T f off : Nat) : Prop := ∀ (a : Addr) (w : World), (Instr.fieldAt T (.pointer (some a)) f).run P w = .ok (.pointer (some (a.add off))) w
theorem FA.of {P : Program} {T f : Nat} {fs : Array Field} {fl : Field} {sz : Nat} (hT : P.underlying T = some (.struct fs)) (hf : fs[f]? = some fl) (hz : ∀ w, (sizeOf fl.type).run P w = .ok sz w) (h0 : sz ≠ 0) : FA P T f fl.offset := by
  intro a w
  simp [Instr.fieldAt, run_underlying hT, hf, Instr.sureAddr, fieldPlace, hz w, h0]

section
variable {P : Program} {n : Nat} {B : Base} {k : List Kont} {ops : List Oper} {C : Option (Res × Hp)} {need : Nat → Bool} {t : XT} {e : Env} {S : Res} {H : Hp}
variable {i d : Nat} {ty : TypeId} {pos : String} {af : Array Edge} {g : Option (Nat × Bool)} {T : TypeId} {x y : Operand}

theorem cell_box {w : World} {gb off : Nat} {tt : TypeId} {cs : List SV} {sv : SV} (h : w.heap[gb]? = some (.cells ⟨SV.vals cs⟩ tt (0, 0))) (hv : cs[off]? = some sv) : w.cell? ⟨gb, off, none⟩ = some sv.val := by
  have h2 : (SV.vals cs)[off]? = some sv.val := by rw [vals_get, hv]; rfl
  simp [World.cell?, h, h2]

theorem cell_own {w : World} {A : Option Addr} {tt : TypeId} {cs : List SV} {m : Nat} {off : Nat} {sv : SV} (h : (Chunk.own A tt cs m).holds w.heap) (hv : cs[off]? = some sv) : w.cell? (eaddr A off) = some sv.val := by
  cases A with
  | none => obtain ⟨rfl, _⟩ := h; simp at hv
  | some a =>
    obtain ⟨h1, h2, rest, h3, h4⟩ := h
    obtain ⟨b, o, s⟩ := a
    simp only at h1 h2 h3
    subst h1 h2
    have h2 : (SV.vals cs)[off]? = some sv.val := by rw [vals_get, hv]; rfl
    have hlt : off < (SV.vals cs).length := (List.getElem?_eq_some_iff.1 h2).1
    rw [eaddr_lit]
    simp only [World.cell?, h3, Nat.zero_add]
    simp [List.getElem?_append_left hlt, h2]

theorem run_load_one {w : World} {a : Addr} {v : Value} (hag : (isAgg T).run P w = .ok false w) (hc : w.cell? a = some v) : (Instr.loadAt T (.pointer (some a))).run P w = .ok v w := by
  simp [Instr.loadAt, Instr.sureAddr, loadVar, hag, run_load, hc]

theorem run_load_agg {w : World} {a : Addr} {m : Nat} {vs : List Value} (hag : (isAgg T).run P w = .ok true w) (hs : (sizeOf T).run P w = .ok m w) (hm : vs.length = m) (hc : ∀ j v, vs[j]? = some v → w.cell? (a.add j) = some v) :
    (Instr.loadAt T (.pointer (some a))).run P w = .ok (.agg ⟨vs⟩) w := by
  have := run_loadCells_list (P := P) w a vs hc
  rw [hm] at this
  simp [Instr.loadAt, Instr.sureAddr, loadVar, hag, hs, this]

theorem q_fa {f off gb of_ : Nat} (hF : FA P T f off) (ho : nth ops i = some ⟨some d, .fieldAddr T x f, ty, pos, af, g⟩) (hg : gok ops e g = some true) (hx : opv e x = some (.p ⟨gb, of_, none⟩))
    (hk : XD P n B ops C need k t ((d, .p ⟨gb, of_ + off, none⟩) :: e) S H) : XD P n B ops C need k (.q i t) e S H :=
  xqq ho hg (fun a w' he _ => by simp only [execOp, he.opv hx, SV.val]; simp [hF _ w', add_lit]) hk
theorem q_fap {f off : Nat} {a0 : Addr} (hF : FA P T f off) (ho : nth ops i = some ⟨some d, .fieldAddr T x f, ty, pos, af, g⟩) (hg : gok ops e g = some true) (hx : opv e x = some (.p a0))
    (hk : XD P n B ops C need k t ((d, .p (a0.add off)) :: e) S H) : XD P n B ops C need k (.q i t) e S H :=
  xqq ho hg (fun a w' he _ => by simp only [execOp, he.opv hx, SV.val]; simp [hF _ w']) hk

theorem q_ixs {el : TypeId} {sz l c : Nat} {A : Option Addr} {sy : SV} {v : Int} (hT : P.underlying T = some (.slice el)) (hs : ∀ w, (sizeOf el).run P w = .ok sz w) (ho : nth ops i = some ⟨some d, .indexAddr T x y, ty, pos, af, g⟩) (hg : gok ops e g = some true) (hx : opv e x = some (.sl A l c)) (hy : opv e y = some sy) (hv : ival sy = some v)
    (hA : A.isSome = true) (h0 : 0 ≤ v) (h1 : v < l)
    (hk : XD P n B ops C need k t ((d, .p (eaddr A (v.toNat * sz))) :: e) S H) : XD P n B ops C need k (.q i t) e S H :=
  xqq ho hg (fun a w' he _ => by
    obtain ⟨a0, rfl⟩ := Option.isSome_iff_exists.1 hA
    obtain ⟨kk, hkk⟩ := ival_spec hv
    have hc : 0 ≤ v ∧ v < (l : Int) := ⟨h0, h1⟩
    simp only [execOp, he.opv hx, he.opv hy, hkk]
    simp [SV.val, Instr.indexAt, asIntOf, run_underlying hT, hc, hs w', eaddr]) hk
theorem q_ixs1 {el : TypeId} {l c : Nat} {A : Option Addr} {sy : SV} {v : Int} (hT : P.underlying T = some (.slice el)) (hs : ∀ w, (sizeOf el).run P w = .ok 1 w) (ho : nth ops i = some ⟨some d, .indexAddr T x y, ty, pos, af, g⟩) (hg : gok ops e g = some true) (hx : opv e x = some (.sl A l c)) (hy : opv e y = some sy) (hv : ival sy = some v)
    (hA : A.isSome = true) (h0 : 0 ≤ v) (h1 : v < l)
    (hk : XD P n B ops C need k t ((d, .p (eaddr A v.toNat)) :: e) S H) : XD P n B ops C need k (.q i t) e S H :=
  q_ixs hT hs ho hg hx hy hv hA h0 h1 (by rw [Nat.mul_one]; exact hk)

theorem q_ixa {el : TypeId} {sz len gb of_ : Nat} {sy : SV} {v : Int} (hT : P.underlying T = some (.array len el)) (hs : ∀ w, (sizeOf el).run P w = .ok sz w) (ho : nth ops i = some ⟨some d, .indexAddr T x y, ty, pos, af, g⟩) (hg : gok ops e g = some true) (hx : opv e x = some (.p ⟨gb, of_, none⟩)) (hy : opv e y = some sy) (hv : ival sy = some v)
    (h0 : 0 ≤ v) (h1 : v < len)
    (hk : XD P n B ops C need k t ((d, .p ⟨gb, of_ + v.toNat * sz, none⟩) :: e) S H) : XD P n B ops C need k (.q i t) e S H :=
  xqq ho hg (fun a w' he _ => by
    obtain ⟨kk, hkk⟩ := ival_spec hv
    have hc : 0 ≤ v ∧ v < (len : Int) := ⟨h0, h1⟩
    simp only [execOp, he.opv hx, he.opv hy, hkk]
    simp [SV.val, Instr.indexAt, asIntOf, run_underlying hT, hc, hs w', Instr.sureAddr, add_lit]) hk
theorem q_ixa1 {el : TypeId} {len gb of_ : Nat} {sy : SV} {v : Int} (hT : P.underlying T = some (.array len el)) (hs : ∀ w, (sizeOf el).run P w = .ok 1 w) (ho : nth ops i = some ⟨some d, .indexAddr T x y, ty, pos, af, g⟩) (hg : gok ops e g = some true) (hx : opv e x = some (.p ⟨gb, of_, none⟩)) (hy : opv e y = some sy) (hv : ival sy = some v)
    (h0 : 0 ≤ v) (h1 : v < len)
    (hk : XD P n B ops C need k t ((d, .p ⟨gb, of_ + v.toNat, none⟩) :: e) S H) : XD P n B ops C need k (.q i t) e S H :=
  q_ixa hT hs ho hg hx hy hv h0 h1 (by rw [Nat.mul_one]; exact hk)
theorem q_ixap {el : TypeId} {len : Nat} {a0 : Addr} {sy : SV} {v : Int} (hT : P.underlying T = some (.array len el)) (hs : ∀ w, (sizeOf el).run P w = .ok 1 w) (ho : nth ops i = some ⟨some d, .indexAddr T x y, ty, pos, af, g⟩) (hg : gok ops e g = some true) (hx : opv e x = some (.p a0)) (hy : opv e y = some sy) (hv : ival sy = some v)
    (h0 : 0 ≤ v) (h1 : v < len)
    (hk : XD P n B ops C need k t ((d, .p (a0.add v.toNat)) :: e) S H) : XD P n B ops C need k (.q i t) e S H :=
  xqq ho hg (fun a w' he _ => by
    obtain ⟨kk, hkk⟩ := ival_spec hv
    have hc : 0 ≤ v ∧ v < (len : Int) := ⟨h0, h1⟩
    simp only [execOp, he.opv hx, he.opv hy, hkk]
    simp [SV.val, Instr.indexAt, asIntOf, run_underlying hT, hc, hs w', Instr.sureAddr]) hk

/-! loads: of a box, of an owned row, of what all may read -/
theorem q_ld {gb off : Nat} {tt : TypeId} {cs : List SV} {sv : SV} (kk : Nat) (hag : ∀ w, (isAgg T).run P w = .ok false w) (ho : nth ops i = some ⟨some d, .load T x, ty, pos, af, g⟩) (hg : gok ops e g = some true) (hx : opv e x = some (.p ⟨gb, off, none⟩)) (hb : nth (Pl C S H).1 kk = some (.box gb tt cs)) (hv : nth cs off = some sv)
    (hk : XD P n B ops C need k t ((d, sv) :: e) S H) : XD P n B ops C need k (.q i t) e S H :=
  xqq ho hg (fun a w' he hC => by
    have h1 := hC.1 _ (List.mem_of_getElem? (nth_get hb))
    simp only [execOp, he.opv hx, SV.val]
    simp [run_load_one (hag w') (cell_box h1 (nth_get hv))]) hk
theorem q_ldo {A : Option Addr} {j m : Nat} {tt : TypeId} {cs : List SV} {sv : SV} (kk : Nat) (hag : ∀ w, (isAgg T).run P w = .ok false w) (ho : nth ops i = some ⟨some d, .load T x, ty, pos, af, g⟩) (hg : gok ops e g = some true) (hx : opv e x = some (.p (eaddr A j))) (hb : nth (Pl C S H).1 kk = some (.own A tt cs m)) (hv : cs[j]? = some sv)
    (hk : XD P n B ops C need k t ((d, sv) :: e) S H) : XD P n B ops C need k (.q i t) e S H :=
  xqq ho hg (fun a w' he hC => by
    have h1 := hC.1 _ (List.mem_of_getElem? (nth_get hb))
    simp only [execOp, he.opv hx, SV.val]
    simp [run_load_one (hag w') (cell_own h1 hv)]) hk
theorem q_ldp {a0 : Addr} {sv : SV} (hag : ∀ w, (isAgg T).run P w = .ok false w) (ho : nth ops i = some ⟨some d, .load T x, ty, pos, af, g⟩) (hg : gok ops e g = some true) (hx : opv e x = some (.p a0)) (hc : cellH (Pl C S H).2 a0 = some sv.val)
    (hk : XD P n B ops C need k t ((d, sv) :: e) S H) : XD P n B ops C need k (.q i t) e S H :=
  xqq ho hg (fun a w' he hC => by
    simp only [execOp, he.opv hx, SV.val]
    simp [run_load_one (hag w') (cellH_spec hC.2 hc)]) hk
/-- a cell of an object -/
theorem q_ldj {gb off : Nat} {l : List (Nat × Obj)} {c : Array Value} {tt : TypeId} {fz : Nat × Nat} {sv : SV} (kk : Nat) (hag : ∀ w, (isAgg T).run P w = .ok false w) (ho : nth ops i = some ⟨some d, .load T x, ty, pos, af, g⟩) (hg : gok ops e g = some true) (hx : opv e x = some (.p ⟨gb, off, none⟩)) (hb : nth (Pl C S H).1 kk = some (.obj l)) (hm : (gb, Obj.cells c tt fz) ∈ l) (hv : c[off]? = some sv.val)
    (hk : XD P n B ops C need k t ((d, sv) :: e) S H) : XD P n B ops C need k (.q i t) e S H :=
  xqq ho hg (fun a w' he hC => by
    have h1 := hC.1 _ (List.mem_of_getElem? (nth_get hb)) _ hm
    have h2 : w'.cell? ⟨gb, off, none⟩ = some sv.val := by simp [World.cell?, h1, hv]
    simp only [execOp, he.opv hx, SV.val]
    simp [run_load_one (hag w') h2]) hk

/-- a whole box, as an aggregate -/
theorem q_ldS {gb : Nat} {tt : TypeId} {cs : List SV} {m : Nat} (kk : Nat) (hag : ∀ w, (isAgg T).run P w = .ok true w) (hs : ∀ w, (sizeOf T).run P w = .ok m w) (ho : nth ops i = some ⟨some d, .load T x, ty, pos, af, g⟩) (hg : gok ops e g = some true) (hx : opv e x = some (.p ⟨gb, 0, none⟩)) (hb : nth (Pl C S H).1 kk = some (.box gb tt cs)) (hm : cs.length = m)
    (hk : XD P n B ops C need k t ((d, .agg cs) :: e) S H) : XD P n B ops C need k (.q i t) e S H :=
  xqq ho hg (fun a w' he hC => by
    have h1 := hC.1 _ (List.mem_of_getElem? (nth_get hb))
    have h2 := run_load_agg (P := P) (T := T) (w := w') (a := ⟨gb, 0, none⟩) (vs := SV.vals cs) (hag w') (hs w') (by rw [vals_length]; exact hm) (fun j v hj => by
      rw [add_lit, Nat.zero_add]
      rw [vals_get] at hj
      cases hq : cs[j]? with
      | none => rw [hq] at hj; cases hj
      | some sv => rw [hq] at hj; simp only [Option.map_some, Option.some.injEq] at hj; rw [← hj]; exact cell_box h1 hq)
    simp only [execOp, he.opv hx, SV.val]
    simp [h2]) hk
/-- a part of a box, as an aggregate -/
theorem q_ldSp {gb off : Nat} {tt : TypeId} {cs cs' : List SV} {m : Nat} (kk : Nat) (hag : ∀ w, (isAgg T).run P w = .ok true w) (hs : ∀ w, (sizeOf T).run P w = .ok m w) (ho : nth ops i = some ⟨some d, .load T x, ty, pos, af, g⟩) (hg : gok ops e g = some true) (hx : opv e x = some (.p ⟨gb, off, none⟩)) (hb : nth (Pl C S H).1 kk = some (.box gb tt cs)) (hp : part cs off m = cs') (hm : off + m ≤ cs.length)
    (hk : XD P n B ops C need k t ((d, .agg cs') :: e) S H) : XD P n B ops C need k (.q i t) e S H :=
  xqq ho hg (fun a w' he hC => by
    subst hp
    have h1 := hC.1 _ (List.mem_of_getElem? (nth_get hb))
    have h2 := run_load_agg (P := P) (T := T) (w := w') (a := ⟨gb, off, none⟩) (vs := SV.vals (part cs off m)) (hag w') (hs w') (by rw [vals_length]; unfold part; simp; omega) (fun j v hj => by
      rw [add_lit]
      rw [vals_get] at hj
      cases hq : (part cs off m)[j]? with
      | none => rw [hq] at hj; cases hj
      | some sv =>
        rw [hq] at hj; simp only [Option.map_some, Option.some.injEq] at hj; rw [← hj]
        refine cell_box h1 ?_
        unfold part at hq
        rw [List.getElem?_take] at hq
        split at hq
        · rw [List.getElem?_drop] at hq; exact hq
        · cases hq)
    simp only [execOp, he.opv hx, SV.val]
    simp [h2]) hk
/-- an aggregate that all may read -/
theorem q_ldSr {a0 : Addr} {cs : List SV} {m : Nat} (hag : ∀ w, (isAgg T).run P w = .ok true w) (hs : ∀ w, (sizeOf T).run P w = .ok m w) (ho : nth ops i = some ⟨some d, .load T x, ty, pos, af, g⟩) (hg : gok ops e g = some true) (hx : opv e x = some (.p a0)) (hc : ∀ j sv, cs[j]? = some sv → cellH (Pl C S H).2 (a0.add j) = some sv.val) (hm : cs.length = m)
    (hk : XD P n B ops C need k t ((d, .agg cs) :: e) S H) : XD P n B ops C need k (.q i t) e S H :=
  xqq ho hg (fun a w' he hC => by
    have h2 := run_load_agg (P := P) (T := T) (w := w') (a := a0) (vs := SV.vals cs) (hag w') (hs w') (by rw [vals_length]; exact hm) (fun j v hj => by
      rw [vals_get] at hj
      cases hq : cs[j]? with
      | none => rw [hq] at hj; cases hj
      | some sv => rw [hq] at hj; simp only [Option.map_some, Option.some.injEq] at hj; rw [← hj]; exact cellH_spec hC.2 (hc j sv hq))
    simp only [execOp, he.opv hx, SV.val]
    simp [h2]) hk

/-! lengths, cuts -/
theorem q_len {el : TypeId} {A : Option Addr} {l c : Nat} (hT : P.underlying T = some (.slice el)) (ho : nth ops i = some ⟨some d, .call ⟨.builtin .len, #[x], #[T]⟩, ty, pos, af, g⟩) (hg : gok ops e g = some true) (hx : opv e x = some (.sl A l c))
    (hk : XD P n B ops C need k t ((d, .i (l : Int)) :: e) S H) : XD P n B ops C need k (.q i t) e S H :=
  xqq ho hg (fun a w' he _ => by
    simp only [execOp, resolve]
    simp [he.opv hx, SV.val, invoke, builtin, Builtin.len_, run_underlying hT, goInt]) hk
theorem q_lens {s : ByteArray} (hT : P.underlying T = some .string) (ho : nth ops i = some ⟨some d, .call ⟨.builtin .len, #[x], #[T]⟩, ty, pos, af, g⟩) (hg : gok ops e g = some true) (hx : opv e x = some (.s s))
    (hk : XD P n B ops C need k t ((d, .i (s.size : Int)) :: e) S H) : XD P n B ops C need k (.q i t) e S H :=
  xqq ho hg (fun a w' he _ => by
    simp only [execOp, resolve]
    simp [he.opv hx, SV.val, invoke, builtin, Builtin.len_, run_underlying hT, goInt]) hk
theorem q_min {u v : Int} {T2 : TypeId} (ho : nth ops i = some ⟨some d, .call ⟨.builtin .min, #[x, y], #[T, T2]⟩, ty, pos, af, g⟩) (hg : gok ops e g = some true) (hx : opv e x = some (.i u)) (hy : opv e y = some (.i v))
    (hk : XD P n B ops C need k t ((d, .i (min u v)) :: e) S H) : XD P n B ops C need k (.q i t) e S H :=
  xqq ho hg (fun a w' he _ => by
    have h1 : (if v < u then v else u) = min u v := by split <;> omega
    simp only [execOp, resolve]
    simp [he.opv hx, he.opv hy, SV.val, invoke, builtin, Builtin.min_, Builtin.min2, h1]) hk
theorem q_max {u v : Int} {T2 : TypeId} (ho : nth ops i = some ⟨some d, .call ⟨.builtin .max, #[x, y], #[T, T2]⟩, ty, pos, af, g⟩) (hg : gok ops e g = some true) (hx : opv e x = some (.i u)) (hy : opv e y = some (.i v))
    (hk : XD P n B ops C need k t ((d, .i (max u v)) :: e) S H) : XD P n B ops C need k (.q i t) e S H :=
  xqq ho hg (fun a w' he _ => by
    have h1 : (if u < v then v else u) = max u v := by split <;> omega
    simp only [execOp, resolve]
    simp [he.opv hx, he.opv hy, SV.val, invoke, builtin, Builtin.max_, Builtin.max2, h1]) hk
theorem q_min_u64 {u v : UInt64} {T2 : TypeId} (ho : nth ops i = some ⟨some d, .call ⟨.builtin .min, #[x, y], #[T, T2]⟩, ty, pos, af, g⟩) (hg : gok ops e g = some true) (hx : opv e x = some (.u64 u)) (hy : opv e y = some (.u64 v))
    (hk : XD P n B ops C need k t ((d, .u64 (if v < u then v else u)) :: e) S H) : XD P n B ops C need k (.q i t) e S H :=
  xqq ho hg (fun a w' he _ => by
    simp only [execOp, resolve]
    simp [he.opv hx, he.opv hy, invoke, builtin, Builtin.min_, Builtin.min2, SV.val]
    by_cases h : v.toNat < u.toNat
    · have h2 : v < u := UInt64.lt_iff_toNat_lt.2 h
      simp [h, h2]
    · have h2 : ¬ v < u := fun hh => h (UInt64.lt_iff_toNat_lt.1 hh)
      simp [h, h2]) hk

/-! cuts of slices: s[lo:hi], s[:hi], s[lo:], s[:], s[:hi:max] -/
theorem q_sl_lh {el : TypeId} {A : Option Addr} {l c sz : Nat} {lo hi : Operand} {u v : Int} (hT : P.underlying T = some (.slice el)) (hs : ∀ w, (sizeOf el).run P w = .ok sz w) (ho : nth ops i = some ⟨some d, .slice T x (some lo) (some hi) none, ty, pos, af, g⟩) (hg : gok ops e g = some true) (hx : opv e x = some (.sl A l c)) (hlo : opv e lo = some (.i u)) (hhi : opv e hi = some (.i v)) (h0 : 0 ≤ u) (h1 : u ≤ v) (h2 : v ≤ c)
    (hk : XD P n B ops C need k t ((d, .sl (cutA A c u.toNat sz) (v.toNat - u.toNat) (c - u.toNat)) :: e) S H) : XD P n B ops C need k (.q i t) e S H :=
  xqq ho hg (fun a w' he _ => by
    obtain ⟨un, rfl⟩ := Int.eq_ofNat_of_zero_le h0
    obtain ⟨vn, rfl⟩ := Int.eq_ofNat_of_zero_le (show 0 ≤ v by omega)
    have e1 : vn ≤ c := by omega
    have e2 : un ≤ vn := by omega
    simp only [execOp]
    simp only [he.opv hx, he.opv hlo, he.opv hhi, Option.map_some, Option.map_none, SV.val]
    simp [Instr.sliceAt, Instr.slice, run_underlying hT, Instr.sliceBounds, Instr.sliceBound, asIntOf, hs w', e1, e2, cutA]) hk
theorem q_sl_h {el : TypeId} {A : Option Addr} {l c sz : Nat} {hi : Operand} {v : Int} (hT : P.underlying T = some (.slice el)) (hs : ∀ w, (sizeOf el).run P w = .ok sz w) (ho : nth ops i = some ⟨some d, .slice T x none (some hi) none, ty, pos, af, g⟩) (hg : gok ops e g = some true) (hx : opv e x = some (.sl A l c)) (hhi : opv e hi = some (.i v)) (h1 : 0 ≤ v) (h2 : v ≤ c)
    (hk : XD P n B ops C need k t ((d, .sl A v.toNat c) :: e) S H) : XD P n B ops C need k (.q i t) e S H :=
  xqq ho hg (fun a w' he _ => by
    have e1 : 0 ≤ v ∧ v ≤ (c : Int) := ⟨by omega, h2⟩
    have e3 : (if c = 0 then A else A.map (·.add (0 * sz))) = A := by
      split
      · rfl
      · cases A <;> simp [Addr.add]
    simp only [execOp]
    simp only [he.opv hx, he.opv hhi, Option.map_some, Option.map_none, SV.val]
    simp only [Nat.zero_mul] at e3
    simp [Instr.sliceAt, Instr.slice, run_underlying hT, Instr.sliceBounds, Instr.sliceBound, asIntOf, hs w', e1, e3]) hk
theorem q_sl_l {el : TypeId} {A : Option Addr} {l c sz : Nat} {lo : Operand} {u : Int} (hT : P.underlying T = some (.slice el)) (hs : ∀ w, (sizeOf el).run P w = .ok sz w) (ho : nth ops i = some ⟨some d, .slice T x (some lo) none none, ty, pos, af, g⟩) (hg : gok ops e g = some true) (hx : opv e x = some (.sl A l c)) (hlo : opv e lo = some (.i u)) (h0 : 0 ≤ u) (h1 : u ≤ l)
    (hk : XD P n B ops C need k t ((d, .sl (cutA A c u.toNat sz) (l - u.toNat) (c - u.toNat)) :: e) S H) : XD P n B ops C need k (.q i t) e S H :=
  xqq ho hg (fun a w' he _ => by
    have e2 : 0 ≤ u ∧ u ≤ (l : Int) := ⟨h0, by omega⟩
    simp only [execOp]
    simp only [he.opv hx, he.opv hlo, Option.map_some, Option.map_none, SV.val]
    simp [Instr.sliceAt, Instr.slice, run_underlying hT, Instr.sliceBounds, Instr.sliceBound, asIntOf, hs w', e2, cutA]) hk
theorem q_sl_a {el : TypeId} {A : Option Addr} {l c sz : Nat} (hT : P.underlying T = some (.slice el)) (hs : ∀ w, (sizeOf el).run P w = .ok sz w) (ho : nth ops i = some ⟨some d, .slice T x none none none, ty, pos, af, g⟩) (hg : gok ops e g = some true) (hx : opv e x = some (.sl A l c))
    (hk : XD P n B ops C need k t ((d, .sl A l c) :: e) S H) : XD P n B ops C need k (.q i t) e S H :=
  xqq ho hg (fun a w' he _ => by
    have e3 : (if c = 0 then A else A.map (·.add (0 * sz))) = A := by
      split
      · rfl
      · cases A <;> simp [Addr.add]
    simp only [Nat.zero_mul] at e3
    simp only [execOp]
    simp only [he.opv hx, Option.map_none, SV.val]
    simp [Instr.sliceAt, Instr.slice, run_underlying hT, Instr.sliceBounds, hs w', e3]) hk
theorem q_sl_hm {el : TypeId} {A : Option Addr} {l c sz : Nat} {hi mx : Operand} {v m : Int} (hT : P.underlying T = some (.slice el)) (hs : ∀ w, (sizeOf el).run P w = .ok sz w) (ho : nth ops i = some ⟨some d, .slice T x none (some hi) (some mx), ty, pos, af, g⟩) (hg : gok ops e g = some true) (hx : opv e x = some (.sl A l c)) (hhi : opv e hi = some (.i v)) (hmx : opv e mx = some (.i m)) (h1 : 0 ≤ v) (h2 : v ≤ m) (h3 : m ≤ c)
    (hk : XD P n B ops C need k t ((d, .sl A v.toNat m.toNat) :: e) S H) : XD P n B ops C need k (.q i t) e S H :=
  xqq ho hg (fun a w' he _ => by
    obtain ⟨vn, rfl⟩ := Int.eq_ofNat_of_zero_le h1
    obtain ⟨mn, rfl⟩ := Int.eq_ofNat_of_zero_le (show 0 ≤ m by omega)
    have e1 : vn ≤ mn := by omega
    have e2 : mn ≤ c := by omega
    have e3 : A.map (·.add 0) = A := by cases A <;> simp [Addr.add]
    simp only [execOp]
    simp only [he.opv hx, he.opv hhi, he.opv hmx, Option.map_some, Option.map_none, SV.val]
    simp [Instr.sliceAt, Instr.slice, run_underlying hT, Instr.sliceBounds, Instr.sliceBound, asIntOf, hs w', e1, e2]
    intro _
    exact e3) hk

/-! cuts of an array behind a pointer, its cells in a box: a[:], a[lo:], a[:hi] -/
theorem q_ar_a {el : TypeId} {len gb of_ sz : Nat} (hT : P.underlying T = some (.array len el)) (hs : ∀ w, (sizeOf el).run P w = .ok sz w) (ho : nth ops i = some ⟨some d, .slice T x none none none, ty, pos, af, g⟩) (hg : gok ops e g = some true) (hx : opv e x = some (.p ⟨gb, of_, none⟩))
    (hk : XD P n B ops C need k t ((d, .sl (some ⟨gb, of_, none⟩) len len) :: e) S H) : XD P n B ops C need k (.q i t) e S H :=
  xqq ho hg (fun a w' he _ => by
    have e3 : (if len = 0 then (⟨gb, of_, none⟩ : Addr) else (⟨gb, of_, none⟩ : Addr).add (0 * sz)) = ⟨gb, of_, none⟩ := by
      split
      · rfl
      · simp [Addr.add]
    simp only [Nat.zero_mul] at e3
    simp only [execOp]
    simp only [he.opv hx, Option.map_none, SV.val]
    simp [Instr.sliceAt, Instr.sureAddr, run_underlying hT, Instr.sliceBounds, hs w', e3]) hk
theorem q_ar_l {el : TypeId} {len gb of_ sz : Nat} {lo : Operand} {u : Int} (hT : P.underlying T = some (.array len el)) (hs : ∀ w, (sizeOf el).run P w = .ok sz w) (ho : nth ops i = some ⟨some d, .slice T x (some lo) none none, ty, pos, af, g⟩) (hg : gok ops e g = some true) (hx : opv e x = some (.p ⟨gb, of_, none⟩)) (hlo : opv e lo = some (.i u)) (h0 : 0 ≤ u) (h1 : u < len)
    (hk : XD P n B ops C need k t ((d, .sl (some ⟨gb, of_ + u.toNat * sz, none⟩) (len - u.toNat) (len - u.toNat)) :: e) S H) : XD P n B ops C need k (.q i t) e S H :=
  xqq ho hg (fun a w' he _ => by
    have e2 : 0 ≤ u ∧ u ≤ (len : Int) := ⟨h0, by omega⟩
    have e4 : ¬ len = u.toNat := by omega
    simp only [execOp]
    simp only [he.opv hx, he.opv hlo, Option.map_some, Option.map_none, SV.val]
    simp [Instr.sliceAt, Instr.sureAddr, run_underlying hT, Instr.sliceBounds, Instr.sliceBound, asIntOf, hs w', e2, e4, add_lit]) hk
theorem q_ar_h {el : TypeId} {len gb of_ sz : Nat} {hi : Operand} {v : Int} (hT : P.underlying T = some (.array len el)) (hs : ∀ w, (sizeOf el).run P w = .ok sz w) (ho : nth ops i = some ⟨some d, .slice T x none (some hi) none, ty, pos, af, g⟩) (hg : gok ops e g = some true) (hx : opv e x = some (.p ⟨gb, of_, none⟩)) (hhi : opv e hi = some (.i v)) (h0 : 0 ≤ v) (h1 : v ≤ len)
    (hk : XD P n B ops C need k t ((d, .sl (some ⟨gb, of_, none⟩) v.toNat len) :: e) S H) : XD P n B ops C need k (.q i t) e S H :=
  xqq ho hg (fun a w' he _ => by
    have e1 : 0 ≤ v ∧ v ≤ (len : Int) := ⟨h0, h1⟩
    have e3 : (if len = 0 then (⟨gb, of_, none⟩ : Addr) else (⟨gb, of_, none⟩ : Addr).add (0 * sz)) = ⟨gb, of_, none⟩ := by
      split
      · rfl
      · simp [Addr.add]
    simp only [Nat.zero_mul] at e3
    simp only [execOp]
    simp only [he.opv hx, he.opv hhi, Option.map_some, Option.map_none, SV.val]
    simp [Instr.sliceAt, Instr.sureAddr, run_underlying hT, Instr.sliceBounds, Instr.sliceBound, asIntOf, hs w', e1, e3]) hk

/-! tuples, aggregates, functions -/
theorem q_ext {j : Nat} {vs : List SV} {sv : SV} (ho : nth ops i = some ⟨some d, .extract x j, ty, pos, af, g⟩) (hg : gok ops e g = some true) (hx : opv e x = some (.tup vs)) (hj : nth vs j = some sv)
    (hk : XD P n B ops C need k t ((d, sv) :: e) S H) : XD P n B ops C need k (.q i t) e S H :=
  xqq ho hg (fun a w' he _ => by
    have h2 : (SV.vals vs)[j]? = some sv.val := by rw [vals_get, nth_get hj]; rfl
    simp only [execOp, he.opv hx, SV.val]
    simp [Instr.extract, h2]) hk
theorem q_fld {f : Nat} {fs : Array Field} {fl : Field} {cs : List SV} {sv : SV} (hT : P.underlying T = some (.struct fs)) (hf : fs[f]? = some fl) (hag : ∀ w, (isAgg fl.type).run P w = .ok false w) (ho : nth ops i = some ⟨some d, .field T x f, ty, pos, af, g⟩) (hg : gok ops e g = some true) (hx : opv e x = some (.agg cs)) (hj : nth cs fl.offset = some sv)
    (hk : XD P n B ops C need k t ((d, sv) :: e) S H) : XD P n B ops C need k (.q i t) e S H :=
  xqq ho hg (fun a w' he _ => by
    have h2 : (SV.vals cs)[fl.offset]? = some sv.val := by rw [vals_get, nth_get hj]; rfl
    simp only [execOp, he.opv hx, SV.val]
    simp [Instr.field, run_underlying hT, hf, Go.part, hag w', asAgg, h2]) hk
theorem q_idx {len : Nat} {el : TypeId} {cs : List SV} {sv sy : SV} {v : Int} (hT : P.underlying T = some (.array len el)) (hs : ∀ w, (sizeOf el).run P w = .ok 1 w) (hag : ∀ w, (isAgg el).run P w = .ok false w) (ho : nth ops i = some ⟨some d, .index T x y, ty, pos, af, g⟩) (hg : gok ops e g = some true) (hx : opv e x = some (.agg cs)) (hy : opv e y = some sy) (hv : ival sy = some v) (h0 : 0 ≤ v) (h1 : v < len) (hj : cs[v.toNat]? = some sv)
    (hk : XD P n B ops C need k t ((d, sv) :: e) S H) : XD P n B ops C need k (.q i t) e S H :=
  xqq ho hg (fun a w' he _ => by
    have h2 : (SV.vals cs)[v.toNat]? = some sv.val := by rw [vals_get, hj]; rfl
    obtain ⟨kk, hkk⟩ := ival_spec hv
    have hc : 0 ≤ v ∧ v < (len : Int) := ⟨h0, h1⟩
    simp only [execOp, he.opv hx, he.opv hy, hkk]
    simp [SV.val, Instr.index, asIntOf, run_underlying hT, hc, hs w', Go.part, hag w', h2]) hk
theorem q_idxs {s : ByteArray} {sy : SV} {v : Int} (hT : P.underlying T = some .string) (ho : nth ops i = some ⟨some d, .index T x y, ty, pos, af, g⟩) (hg : gok ops e g = some true) (hx : opv e x = some (.s s)) (hy : opv e y = some sy) (hv : ival sy = some v) (h0 : 0 ≤ v) (h1 : v.toNat < s.size)
    (hk : XD P n B ops C need k t ((d, .u8 (s[v.toNat])) :: e) S H) : XD P n B ops C need k (.q i t) e S H :=
  xqq ho hg (fun a w' he _ => by
    obtain ⟨kk, hkk⟩ := ival_spec hv
    simp only [execOp, he.opv hx, he.opv hy, hkk]
    simp [SV.val, Instr.index, asIntOf, run_underlying hT, h0, getElem?_pos, h1]) hk
theorem q_fn {f : FuncId} {cap : Array Operand} {svs : List SV} (ho : nth ops i = some ⟨some d, .makeFunc (.func f) #[] cap, ty, pos, af, g⟩) (hg : gok ops e g = some true) (hx : opvs e cap.toList = some svs)
    (hk : XD P n B ops C need k t ((d, .fn f svs) :: e) S H) : XD P n B ops C need k (.q i t) e S H :=
  xqq ho hg (fun a w' he _ => by
    have h1 := he.opvs hx
    have h2 : cap.map a.eval = ⟨SV.vals svs⟩ := by apply Array.ext'; simpa using h1
    simp only [execOp, SV.val]
    simp [Instr.makeFunc, h2]) hk

/-- l laid over cs from off on -/
def putL : List SV → Nat → List SV → List SV
  | [], _, _ => []
  | c :: cs, 0, [] => c :: cs
  | _ :: cs, 0, x :: l => x :: putL cs 0 l
  | c :: cs, off + 1, l => c :: putL cs off l

end
end Go.GW
