/- Own words, part F: operations that make or write memory, calls, the way into a function and out of it. -/
import Derived.Test.YtcchamnagcpaiaaGwE
set_option linter.unusedVariables false
set_option linter.unusedSimpArgs false
namespace Go.GW
open Go

/-- the chunks and the cells that the quiet operations of a region lean on are still there -/
def KP (C : Option (Res × Hp)) (S' : Res) (H' : Hp) : Prop :=
  match C with
  | none => True
  | some x => (∀ c ∈ x.1, c ∈ S') ∧ ∀ g o, x.2 g = some o → H' g = some o

theorem KP.keep {C : Option (Res × Hp)} {B : Base} {S' : Res} {H' : Hp} {w : World} (h : KP C S' H') (ha : At B S' H' w) : keepC (C.map CK) w := by
  cases C with
  | none => trivial
  | some x => exact ⟨fun c hc => ha.res c (h.1 c hc), fun g o ho => ha.hp g o (h.2 g o ho)⟩

theorem kp0 {S' : Res} {H' : Hp} {b : Bool} : b = true → KP none S' H' := fun _ => trivial

def HLe (H H' : Hp) : Prop := ∀ g o, H g = some o → H' g = some o
theorem HLe.refl (H : Hp) : HLe H H := fun _ _ e => e
theorem HLe.trans {a b c : Hp} (h : HLe a b) (k : HLe b c) : HLe a c := fun g o e => k g o (h g o e)

section
variable {P : Program} {n : Nat} {B : Base} {k : List Kont} {ops : List Oper} {C : Option (Res × Hp)} {need : Nat → Bool} {t : XT} {e : Env} {S : Res} {H : Hp}
variable {i d : Nat} {ty : TypeId} {pos : String} {af : Array Edge} {g : Option (Nat × Bool)} {T : TypeId} {x y : Operand}

/-- an operation with a slot of its own, that yields a value -/
theorem hval {op : Op} (ho : nth ops i = some ⟨some d, op, ty, pos, af, g⟩) (hg : gok ops e g = some true)
    (hev : ∀ a w, Holds n e a → At B S H w → ∃ sv S' H' w', (execOp a.eval ⟨some d, op, ty, pos, af, g⟩).run P w = .ok (.value (SV.val sv)) w' ∧ At B S' H' w' ∧ (need i = true → KP C S' H') ∧
      XD P n B ops C need k t ((d, sv) :: e) S' H') : XD P n B ops C need k (.h i t) e S H := by
  intro hdo a w he hw
  have hd : Nat.blt d n = true := by rw [Nat.blt_eq]; exact dstOk_spec hdo i _ d ho rfl
  obtain ⟨sv, S', H', w', hr, hA, hkp, hk⟩ := hev a w he hw
  refine ⟨_, ho, .inl ⟨gok_spec he (fun j b oj dj _ hj hdj => dstOk_spec hdo j oj dj hj hdj) hg _ _ _ _ _, ?_⟩⟩
  rw [hr]
  exact ⟨fun hn => (hkp hn).keep hA, hk hdo _ _ (he.put hd) hA⟩

/-- an operation without a slot -/
theorem hskip {op : Op} (ho : nth ops i = some ⟨none, op, ty, pos, af, g⟩) (hg : gok ops e g = some true)
    (hev : ∀ a w, Holds n e a → At B S H w → ∃ S' H' w', (execOp a.eval ⟨none, op, ty, pos, af, g⟩).run P w = .ok .skip w' ∧ At B S' H' w' ∧ (need i = true → KP C S' H') ∧
      XD P n B ops C need k t e S' H') : XD P n B ops C need k (.h i t) e S H := by
  intro hdo a w he hw
  obtain ⟨S', H', w', hr, hA, hkp, hk⟩ := hev a w he hw
  refine ⟨_, ho, .inl ⟨gok_spec he (fun j b oj dj _ hj hdj => dstOk_spec hdo j oj dj hj hdj) hg _ _ _ _ _, ?_⟩⟩
  rw [hr]
  exact ⟨fun hn => (hkp hn).keep hA, hk hdo _ _ he hA⟩

/-! ### new boxes -/
theorem At.newBox {w : World} (hw : At B S H w) (T : TypeId) (cs : List SV) : At B (.box w.heap.size T cs :: S) H (w.alloc (.cells ⟨SV.vals cs⟩ T)) :=
  hw.new (o := .cells ⟨SV.vals cs⟩ T) rfl ⟨rfl, rfl, rfl⟩ rfl (by
    show (w.heap.push _)[w.heap.size]? = _
    simp)

theorem h_box1 {sv : SV} (ho : nth ops i = some ⟨some d, .box T x, ty, pos, af, g⟩) (hg : gok ops e g = some true) (hx : opv e x = some sv) (h1 : sv.one = true)
    (hk : ∀ gb, (need i = true → KP C (.box gb T [sv] :: S) H) ∧ XD P n B ops C need k t ((d, .p ⟨gb, 0, none⟩) :: e) (.box gb T [sv] :: S) H) : XD P n B ops C need k (.h i t) e S H :=
  hval ho hg fun a w he hw => by
    refine ⟨.p ⟨w.heap.size, 0, none⟩, _, _, _, ?_, hw.newBox T [sv], (hk _).1, (hk _).2⟩
    have hc := SV.cells_val (.inl h1)
    have hc2 : sv.cells = [sv] := by cases sv <;> first | rfl | cases h1
    rw [hc2] at hc
    simp only [execOp, he.opv hx]
    simp [Instr.box, newVar, newRow, hc, SV.val]

theorem h_boxS {cs : List SV} (ho : nth ops i = some ⟨some d, .box T x, ty, pos, af, g⟩) (hg : gok ops e g = some true) (hx : opv e x = some (.agg cs))
    (hk : ∀ gb, (need i = true → KP C (.box gb T cs :: S) H) ∧ XD P n B ops C need k t ((d, .p ⟨gb, 0, none⟩) :: e) (.box gb T cs :: S) H) : XD P n B ops C need k (.h i t) e S H :=
  hval ho hg fun a w he hw => by
    refine ⟨.p ⟨w.heap.size, 0, none⟩, _, _, _, ?_, hw.newBox T cs, (hk _).1, (hk _).2⟩
    simp only [execOp, he.opv hx]
    simp [Instr.box, newVar, newRow, SV.val, Value.cells]

theorem h_alloc {z : Value} {cs : List SV} (hz : ∀ w, (zeroValue T).run P w = .ok z w) (ho : nth ops i = some ⟨some d, .alloc T, ty, pos, af, g⟩) (hg : gok ops e g = some true) (hcs : z.cells = ⟨SV.vals cs⟩)
    (hk : ∀ gb, (need i = true → KP C (.box gb T cs :: S) H) ∧ XD P n B ops C need k t ((d, .p ⟨gb, 0, none⟩) :: e) (.box gb T cs :: S) H) : XD P n B ops C need k (.h i t) e S H :=
  hval ho hg fun a w he hw => by
    refine ⟨.p ⟨w.heap.size, 0, none⟩, _, _, _, ?_, hw.newBox T cs, (hk _).1, (hk _).2⟩
    simp only [execOp]
    simp [Instr.alloc, hz w, newVar, newRow, SV.val, hcs]

/-! ### stores -/
theorem putL_spec : ∀ (cs : List SV) (off : Nat) (l : List SV), off + l.length ≤ cs.length → putL cs off l = cs.take off ++ l ++ cs.drop (off + l.length)
  | [], off, l, h => by
    have h1 : l = [] := by simp at h; exact h.2
    subst h1
    simp [putL]
  | c :: cs, 0, [], _ => by simp [putL]
  | c :: cs, 0, x :: l, h => by
    have := putL_spec cs 0 l (by simp at h ⊢; omega)
    simp only [Nat.zero_add, List.take_zero, List.nil_append] at this
    simp [putL, this]
  | c :: cs, off + 1, l, h => by
    have := putL_spec cs off l (by simp at h ⊢; omega)
    simp only [putL, this]
    rw [show off + 1 + l.length = (off + l.length) + 1 by omega]
    simp

theorem vals_set (cs : List SV) (j : Nat) (sv : SV) : SV.vals (cs.set j sv) = (SV.vals cs).set j sv.val := by simp [vals_eq, List.map_set]

theorem one_spec {sv : SV} (h : sv.one = true) : sv.val.oneCell' = true := by
  cases sv <;> first | rfl | cases h

theorem vals_one {l : List SV} (h : ∀ c ∈ l, c.one = true) : ∀ v ∈ SV.vals l, v.oneCell' = true := by
  intro v hv
  rw [vals_eq] at hv
  obtain ⟨c, hc, rfl⟩ := List.mem_map.1 hv
  exact one_spec (h c hc)

theorem run_storeCells_box {w : World} {gb off : Nat} {tt : TypeId} {cs l : List SV} (h : w.heap[gb]? = some (.cells ⟨SV.vals cs⟩ tt (0, 0))) (hl : off + l.length ≤ cs.length) (h1 : ∀ c ∈ l, c.one = true) :
    (storeCells ⟨gb, off, none⟩ (SV.vals l)).run P w = .ok () (w.setRow gb ⟨SV.vals (putL cs off l)⟩) := by
  have := run_storeCells_at P gb off tt (SV.vals l) 0 ⟨SV.vals cs⟩ w h (by simp [vals_length]; omega) (vals_one h1)
  rw [this]
  congr 2
  rw [putL_spec cs off l hl]
  simp [vals_append, vals_take, vals_drop, vals_length]

theorem setRow_heap_at (w : World) (gb : Nat) {tt : TypeId} {cs cs' : Array Value} (h : w.heap[gb]? = some (.cells cs tt (0, 0))) : (w.setRow gb cs').heap[gb]? = some (.cells cs' tt (0, 0)) :=
  setRow_heap w gb cs cs' tt (0, 0) h

theorem setRow_other (w : World) (gb g' : Nat) (cs' : Array Value) (h : g' ≠ gb) : (w.setRow gb cs').heap[g']? = w.heap[g']? := by
  simp only [World.setRow, Array.getElem?_modify]
  rw [if_neg (by omega)]

theorem setRow_size (w : World) (gb : Nat) (cs' : Array Value) : (w.setRow gb cs').heap.size = w.heap.size := by simp [World.setRow]
theorem setRow_same (w : World) (gb : Nat) (cs' : Array Value) : Same w (w.setRow gb cs') := ⟨rfl, rfl, rfl⟩

theorem At.setBox {w : World} {kk gb : Nat} {tt : TypeId} {cs cs' : List SV} (hw : At B S H w) (hb : nth S kk = some (.box gb tt cs)) : At B (putAt S kk (.box gb tt cs')) H (w.setRow gb ⟨SV.vals cs'⟩) := by
  have h1 : w.heap[gb]? = some (.cells ⟨SV.vals cs⟩ tt (0, 0)) := hw.res _ (List.mem_of_getElem? (nth_get hb))
  exact hw.set hb rfl (setRow_same _ _ _) (setRow_size _ _ _) (fun g hg => setRow_other w gb g _ (by simpa [Chunk.dom] using hg)) (setRow_heap_at w gb h1)

/-- one cell of a box is written -/
theorem h_st {gb off : Nat} {tt : TypeId} {cs cs' : List SV} {S' : Res} {sv : SV} (kk : Nat) (hs : ∀ w, (sizeOf T).run P w = .ok 1 w) (ho : nth ops i = some ⟨none, .store T x y, ty, pos, af, g⟩) (hg : gok ops e g = some true)
    (hx : opv e x = some (.p ⟨gb, off, none⟩)) (hy : opv e y = some sv) (h1 : sv.one = true) (hb : nth S kk = some (.box gb tt cs)) (hl : off < cs.length) (hcs : putL cs off [sv] = cs') (hS : putAt S kk (.box gb tt cs') = S') (hkp : need i = true → KP C S' H)
    (hk : XD P n B ops C need k t e S' H) : XD P n B ops C need k (.h i t) e S H :=
  hskip ho hg fun a w he hw => by
    subst hcs hS
    refine ⟨_, _, _, ?_, hw.setBox hb, hkp, hk⟩
    have h2 : w.heap[gb]? = some (.cells ⟨SV.vals cs⟩ tt (0, 0)) := hw.res _ (List.mem_of_getElem? (nth_get hb))
    have h3 := run_storeCells_box (P := P) (off := off) (l := [sv]) h2 (by simp; omega) (by simpa using h1)
    have hc := SV.cells_val (.inl h1)
    have hc2 : sv.cells = [sv] := by cases sv <;> first | rfl | cases h1
    rw [hc2] at hc
    simp only [execOp, he.opv hx, he.opv hy]
    simp only [SV.val]
    simp only [SV.vals] at h3 hc
    simp [Instr.storeAt, Instr.sureAddr, storeVar, hs w, hc, h3]

/-- an aggregate is written into a box -/
theorem h_stS {gb off m : Nat} {tt : TypeId} {cs cs' l : List SV} {S' : Res} (kk : Nat) (hs : ∀ w, (sizeOf T).run P w = .ok m w) (ho : nth ops i = some ⟨none, .store T x y, ty, pos, af, g⟩) (hg : gok ops e g = some true)
    (hx : opv e x = some (.p ⟨gb, off, none⟩)) (hy : opv e y = some (.agg l)) (hm : l.length = m) (h1 : ∀ c ∈ l, c.one = true) (hb : nth S kk = some (.box gb tt cs)) (hl : off + l.length ≤ cs.length) (hcs : putL cs off l = cs') (hS : putAt S kk (.box gb tt cs') = S') (hkp : need i = true → KP C S' H)
    (hk : XD P n B ops C need k t e S' H) : XD P n B ops C need k (.h i t) e S H :=
  hskip ho hg fun a w he hw => by
    subst hcs hS
    refine ⟨_, _, _, ?_, hw.setBox hb, hkp, hk⟩
    have h2 : w.heap[gb]? = some (.cells ⟨SV.vals cs⟩ tt (0, 0)) := hw.res _ (List.mem_of_getElem? (nth_get hb))
    have h3 := run_storeCells_box (P := P) (l := l) h2 hl h1
    simp only [execOp, he.opv hx, he.opv hy, SV.val]
    have h4 : (⟨SV.vals l⟩ : Array Value).size = m := by simp [vals_length, hm]
    simp [Instr.storeAt, Instr.sureAddr, storeVar, hs w, Value.cells, vals_length, hm, h3]

/-! ### owned rows -/
theorem own_holds {w : World} {A : Option Addr} {tt : TypeId} {cs : List SV} {m : Nat} (h : (Chunk.own A tt cs m).holds w.heap) (h0 : 0 < m) : ∃ gb rest, A = some ⟨gb, 0, none⟩ ∧ w.heap[gb]? = some (.cells ⟨SV.vals cs ++ rest⟩ tt (0, 0)) ∧ (SV.vals cs ++ rest).length = m := by
  cases A with
  | none => obtain ⟨_, h2⟩ := h; omega
  | some a =>
    obtain ⟨h1, h2, rest, h3, h4⟩ := h
    obtain ⟨b, o, s⟩ := a
    simp only at h1 h2 h3
    subst h1 h2
    exact ⟨b, rest, rfl, h3, h4⟩

/-- one cell of an owned row is written -/
theorem h_sto {A : Option Addr} {j m : Nat} {tt : TypeId} {cs cs' : List SV} {S' : Res} {sv : SV} (kk : Nat) (hs : ∀ w, (sizeOf T).run P w = .ok 1 w) (ho : nth ops i = some ⟨none, .store T x y, ty, pos, af, g⟩) (hg : gok ops e g = some true)
    (hx : opv e x = some (.p (eaddr A j))) (hy : opv e y = some sv) (h1 : sv.one = true) (hb : nth S kk = some (.own A tt cs m)) (hl : j < cs.length) (hcs : cs.set j sv = cs') (hS : putAt S kk (.own A tt cs' m) = S') (hkp : need i = true → KP C S' H)
    (hk : XD P n B ops C need k t e S' H) : XD P n B ops C need k (.h i t) e S H :=
  hskip ho hg fun a w he hw => by
    subst hcs hS
    have h2 := hw.res _ (List.mem_of_getElem? (nth_get hb))
    have h0 : 0 < m := by
      cases A with
      | none => obtain ⟨h3, _⟩ := h2; subst h3; simp at hl
      | some a => obtain ⟨_, _, rest, _, h4⟩ := h2; rw [List.length_append, vals_length] at h4; omega
    obtain ⟨gb, rest, rfl, h3, h4⟩ := own_holds h2 h0
    have hone : ∀ v ∈ [sv.val], v.oneCell' = true := by intro v hv; simp only [List.mem_singleton] at hv; subst hv; exact one_spec h1
    have hst := run_storeCells_at P gb j tt [sv.val] 0 ⟨SV.vals cs ++ rest⟩ w h3 (by simp [vals_length]; omega) hone
    have e1 : (List.take (j + 0) (SV.vals cs ++ rest) ++ [sv.val] ++ List.drop (j + 0 + [sv.val].length) (SV.vals cs ++ rest)) = SV.vals (cs.set j sv) ++ rest := by
      have hlen : j < (SV.vals cs).length := by rw [vals_length]; exact hl
      rw [vals_set, List.set_eq_take_append_cons_drop, if_pos hlen]
      rw [List.take_append_of_le_length (by omega), List.drop_append_of_le_length (by simp; omega)]
      simp
    rw [e1] at hst
    have hA : At B (putAt S kk (.own (some ⟨gb, 0, none⟩) tt (cs.set j sv) m)) H (w.setRow gb ⟨SV.vals (cs.set j sv) ++ rest⟩) :=
      hw.set hb rfl (setRow_same _ _ _) (setRow_size _ _ _) (fun g hg => setRow_other w gb g _ (by simpa [Chunk.dom] using hg))
        ⟨rfl, rfl, rest, setRow_heap_at w gb h3, by rw [List.length_append, vals_length, List.length_set] at *; omega⟩
    refine ⟨_, _, _, ?_, hA, hkp, hk⟩
    have hc := SV.cells_val (.inl h1)
    have hc2 : sv.cells = [sv] := by cases sv <;> first | rfl | cases h1
    rw [hc2] at hc
    simp only [execOp, he.opv hx, he.opv hy, eaddr_lit, SV.val, Nat.zero_add]
    simp [Instr.storeAt, Instr.sureAddr, storeVar, hs w, hc, SV.vals, hst]

/-- what is owned may be made public -/
theorem At.pub {w : World} {A : Option Addr} {tt : TypeId} {cs : List SV} {m kk : Nat} (hw : At B S H w) (hb : nth S kk = some (.own A tt cs m)) : ∃ H', HLe H H' ∧ RR H' A cs ∧ At B (S.eraseIdx kk) H' w := by
  have h2 := hw.res _ (List.mem_of_getElem? (nth_get hb))
  cases A with
  | none =>
    obtain ⟨rfl, rfl⟩ := h2
    have h4 : At B ([.own none tt [] 0] ++ S.eraseIdx kk) H w := hw.perm (nth_split hb)
    exact ⟨H, HLe.refl H, .nil, (h4.perm List.perm_append_comm).drop⟩
  | some a0 =>
    obtain ⟨h3, h4, rest, h5, h6⟩ := h2
    obtain ⟨b, o, s⟩ := a0
    simp only at h3 h4 h5
    subst h3 h4
    have h7 := hw.publish hb (g := b) (o := .cells ⟨SV.vals cs ++ rest⟩ tt (0, 0)) rfl h5
    have hn : H b = none := hw.dis b (List.mem_flatMap.2 ⟨_, List.mem_of_getElem? (nth_get hb), by simp [Chunk.dom]⟩)
    refine ⟨_, fun g o ho => ?_, .inr ⟨_, rfl, fun j sv hj => ?_⟩, h7⟩
    · unfold Hp.add
      split
      · rename_i hgb; subst hgb; rw [hn] at ho; cases ho
      · exact ho
    · rw [add_lit, Nat.zero_add]
      have h8 : (SV.vals cs)[j]? = some sv.val := by rw [vals_get, hj]; rfl
      have hlt : j < (SV.vals cs).length := (List.getElem?_eq_some_iff.1 h8).1
      unfold cellH Hp.add
      simp [List.getElem?_append_left hlt, h8]

theorem pubE {A : Option Addr} {tt : TypeId} {cs : List SV} {m : Nat} {S' : Res} {c : Code} (kk : Nat) (hb : nth S kk = some (.own A tt cs m)) (hS : S.eraseIdx kk = S')
    (hk : ∀ H', HLe H H' → RR H' A cs → EW P n B c k e S' H') : EW P n B c k e S H := fun a w he hw => by
  obtain ⟨H', h1, h2, h3⟩ := hw.pub hb
  exact hk H' h1 h2 a w he (hS ▸ h3)
theorem pubN {A : Option Addr} {tt : TypeId} {cs : List SV} {m : Nat} {S' : Res} (kk : Nat) (hb : nth S kk = some (.own A tt cs m)) (hS : S.eraseIdx kk = S')
    (hk : ∀ H', HLe H H' → RR H' A cs → NK P n B k e S' H') : NK P n B k e S H := fun a w he hw => by
  obtain ⟨H', h1, h2, h3⟩ := hw.pub hb
  exact hk H' h1 h2 a w he (hS ▸ h3)
theorem pubX {A : Option Addr} {tt : TypeId} {cs : List SV} {m : Nat} {S' : Res} (kk : Nat) (hb : nth S kk = some (.own A tt cs m)) (hS : S.eraseIdx kk = S')
    (hk : ∀ H', HLe H H' → RR H' A cs → XD P n B ops C need k t e S' H') : XD P n B ops C need k t e S H := fun hdo a w he hw => by
  obtain ⟨H', h1, h2, h3⟩ := hw.pub hb
  exact hk H' h1 h2 hdo a w he (hS ▸ h3)

/-! ### make, literals of slices -/
theorem At.newOwn {w w' : World} (hw : At B S H w) (T : TypeId) (cs : List SV) (rest : List Value) (m : Nat) (hm : (SV.vals cs ++ rest).length = m) (hw' : w'.heap = w.heap.push (.cells ⟨SV.vals cs ++ rest⟩ T)) (hs : Same w w') :
    At B (.own (some ⟨w.heap.size, 0, none⟩) T cs m :: S) H w' :=
  hw.new (o := .cells ⟨SV.vals cs ++ rest⟩ T) hw' hs rfl ⟨rfl, rfl, rest, by rw [hw']; simp, hm⟩

/-- make([]T, l, c), an element one cell -/
theorem h_mk {el : TypeId} {inf : TypeInfo} {z : SV} {u v : Int} (hT : P.underlying T = some (.slice el)) (hi : P.info? el = some inf) (hz : inf.zero = some z.val) (hz1 : z.one = true) (hsz : inf.size = 1) (ho : nth ops i = some ⟨some d, .makeSlice T x y, ty, pos, af, g⟩) (hg : gok ops e g = some true)
    (hx : opv e x = some (.i u)) (hy : opv e y = some (.i v)) (h0 : 0 ≤ u) (h1 : u ≤ v) (hb : (inf.bytes : Int) * v ≤ 140737488355328) (h63 : v ≤ 9223372036854775807)
    (hk : ∀ gb, (need i = true → KP C (.own (some ⟨gb, 0, none⟩) el (List.replicate u.toNat z) v.toNat :: S) H) ∧ XD P n B ops C need k t ((d, .sl (some ⟨gb, 0, none⟩) u.toNat v.toNat) :: e) (.own (some ⟨gb, 0, none⟩) el (List.replicate u.toNat z) v.toNat :: S) H) : XD P n B ops C need k (.h i t) e S H :=
  hval ho hg fun a w he hw => by
    have hr := run_make (P := P) w T el inf z.val hT hi hz .i64 .i64 u v h0 h1 (by omega) h63
    have hzc := SV.cells_val (.inl hz1)
    have hc2 : z.cells = [z] := by cases z <;> first | rfl | cases hz1
    rw [hc2] at hzc
    have hm : madeCells z.val.cells (v.toNat * inf.size) = ⟨SV.vals (List.replicate u.toNat z) ++ List.replicate (v.toNat - u.toNat) z.val⟩ := by
      have e1 : SV.vals (List.replicate u.toNat z) ++ List.replicate (v.toNat - u.toNat) z.val = List.replicate v.toNat z.val := by
        rw [vals_eq, List.map_replicate, List.replicate_append_replicate, show u.toNat + (v.toNat - u.toNat) = v.toNat by omega]
      rw [e1, hzc, hsz, Nat.mul_one]
      unfold madeCells
      apply Array.ext
      · simp
      · intro j h1 h2
        simp [SV.vals, Nat.mod_one]
    rw [hm] at hr
    refine ⟨.sl (some ⟨w.heap.size, 0, none⟩) u.toNat v.toNat, _, _, w.alloc (.cells ⟨SV.vals (List.replicate u.toNat z) ++ List.replicate (v.toNat - u.toNat) z.val⟩ el), ?_, hw.newOwn el (List.replicate u.toNat z) (List.replicate (v.toNat - u.toNat) z.val) v.toNat (by simp [vals_length]; omega) rfl ⟨rfl, rfl, rfl⟩, (hk _).1, (hk _).2⟩
    simp only [execOp, he.opv hx, he.opv hy, SV.val]
    simp [hr]
end
end Go.GW
