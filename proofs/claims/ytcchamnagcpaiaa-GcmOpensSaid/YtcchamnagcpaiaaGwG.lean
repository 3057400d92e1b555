/- Own words, part G: append, copy, literals of slices, calls, the way into a function and out of it. -/
import Derived.Test.YtcchamnagcpaiaaGwF
set_option linter.unusedVariables false
set_option linter.unusedSimpArgs false
namespace Go.GW
open Go

section
variable {P : Program} {n : Nat} {B : Base} {k : List Kont} {ops : List Oper} {C : Option (Res × Hp)} {need : Nat → Bool} {t : XT} {e : Env} {S : Res} {H : Hp}
variable {i d : Nat} {ty : TypeId} {pos : String} {af : Array Edge} {g : Option (Nat × Bool)} {T : TypeId} {x y : Operand}

theorem zeroCells_size (z : Array Value) (m : Nat) : (Builtin.zeroCells z m).size = m * z.size := by simp [Builtin.zeroCells]

/-- what append makes of an owned row -/
theorem run_app {w : World} {el : TypeId} {inf : TypeInfo} {z : Value} {A A2 : Option Addr} {l c l2 c2 : Nat} {cs news : List SV} {kk : Nat} (hw : At B S H w) (hT : P.underlying T = some (.slice el)) (hi : P.info? el = some inf) (hz : inf.zero = some z) (hzs : z.cells.size = inf.size) (h0 : 0 < inf.size)
    (hb : nth S kk = some (.own A el cs (c * inf.size))) (hl : cs.length = l * inf.size) (hlc : l ≤ c) (hsrc : RR H A2 news) (hl2 : news.length = l2 * inf.size) (h1 : ∀ s ∈ news, s.one = true) (hby : (l + l2) * inf.bytes ≤ 140737488355328) (h63 : l + l2 ≤ 9223372036854775807) :
    ∃ A' c' w', (Builtin.append_ #[T, T] ty #[.slice A l c, .slice A2 l2 c2]).run P w = .ok (.slice A' (l + l2) c') w' ∧ l + l2 ≤ c' ∧ At B (putAt S kk (.own A' el (cs ++ news) (c' * inf.size))) H w' := by
  have hh := hw.res _ (List.mem_of_getElem? (nth_get hb))
  have hone := vals_one h1
  rcases Nat.eq_zero_or_pos l2 with hl20 | hl20
  · subst hl20
    have hn : news = [] := List.eq_nil_of_length_eq_zero (by omega)
    subst hn
    refine ⟨A, c, w, ?_, by omega, ?_⟩
    · have hf : (Builtin.firstCells inf.size 0 (.slice A2 0 c2)).run P w = .ok #[] w := by
        cases A2 with
        | none => simp [Builtin.firstCells]
        | some b => simp [Builtin.firstCells, loadCells, loadCellsFrom]
      have hle : l ≤ c := hlc
      simp [Builtin.append_, run_underlying hT, sizeOf, typeInfo, hi, Builtin.lenOf, hle, hf]
      cases A with
      | none => rfl
      | some a => simp [storeCells]
    · rw [List.append_nil]
      have : (putAt S kk (Chunk.own A el cs (c * inf.size))).Perm S := (putAt_perm hb).trans (nth_split hb).symm
      exact hw.perm this.symm
  · obtain ⟨a2, rfl, hc2⟩ : ∃ a2, A2 = some a2 ∧ ∀ j sv, news[j]? = some sv → cellH H (a2.add j) = some sv.val := by
      rcases hsrc with h | ⟨a2, e, hc⟩
      · rw [h] at hl2; simp at hl2; have := Nat.mul_pos hl20 h0; omega
      · exact ⟨a2, e, hc⟩
    have hnews : ∀ j v, (SV.vals news)[j]? = some v → w.cell? (a2.add j) = some v := by
      intro j v hj
      rw [vals_get] at hj
      cases hq : news[j]? with
      | none => rw [hq] at hj; cases hj
      | some sv => rw [hq] at hj; simp only [Option.map_some, Option.some.injEq] at hj; rw [← hj]; exact cellH_spec hw.hp (hc2 j sv hq)
    have hlv : (SV.vals news).length = l2 * inf.size := by rw [vals_length]; exact hl2
    by_cases hroom : l + l2 ≤ c
    · -- in place
      have hc0 : 0 < c * inf.size := Nat.mul_pos (by omega) h0
      obtain ⟨gb, rest, rfl, h3, h4⟩ := own_holds hh hc0
      have hlen4 : cs.length + rest.length = c * inf.size := by rw [List.length_append, vals_length] at h4; exact h4
      have hfit : l * inf.size + (SV.vals news).length ≤ (⟨SV.vals cs ++ rest⟩ : Array Value).size := by
        show _ ≤ (SV.vals cs ++ rest).length
        rw [h4, hlv, ← Nat.add_mul]
        exact Nat.mul_le_mul_right _ hroom
      have hr := run_append_room (P := P) w T ty el inf hT hi gb l c ⟨SV.vals cs ++ rest⟩ h3 a2 l2 c2 (SV.vals news) hlv hnews hone hroom hfit
      have hrl : l2 * inf.size ≤ rest.length := by
        have := Nat.mul_le_mul_right inf.size hroom
        rw [Nat.add_mul] at this
        omega
      have e1 : List.take (l * inf.size) (SV.vals cs ++ rest) ++ SV.vals news ++ List.drop (l * inf.size + (SV.vals news).length) (SV.vals cs ++ rest) = SV.vals (cs ++ news) ++ rest.drop (l2 * inf.size) := by
        have hcl : (SV.vals cs).length = l * inf.size := by rw [vals_length]; exact hl
        rw [List.take_append_of_le_length (by omega), List.take_of_length_le (by omega), List.drop_append, List.drop_of_length_le (by omega), hcl, hlv, vals_append]
        simp
      simp only [e1] at hr
      refine ⟨_, _, _, hr, hroom, ?_⟩
      exact hw.set hb rfl (setRow_same _ _ _) (setRow_size _ _ _) (fun g hg => setRow_other w gb g _ (by simpa [Chunk.dom] using hg))
        ⟨rfl, rfl, _, setRow_heap_at w gb h3, by rw [List.length_append, vals_length, List.length_append, List.length_drop, hl2]; omega⟩
    · -- it grows
      have hgrow : ∀ (olds : List Value) (w0 : World) (c' : Nat), l + l2 ≤ c' → olds = SV.vals cs → w0.heap = w.heap → Same w w0 →
          At B (putAt S kk (.own (some ⟨w.heap.size, 0, none⟩) el (cs ++ news) (c' * inf.size))) H (w0.alloc (.cells ((olds.toArray ++ (SV.vals news).toArray ++ Builtin.zeroCells z.cells (c' - (l + l2)))) el)) := by
        intro olds w0 c' hc' he hw0 hs0
        subst he
        have hA : At B (.own (some ⟨w.heap.size, 0, none⟩) el (cs ++ news) (c' * inf.size) :: S) H (w0.alloc (.cells (((SV.vals cs).toArray ++ (SV.vals news).toArray ++ Builtin.zeroCells z.cells (c' - (l + l2)))) el)) := by
          refine hw.newOwn el (cs ++ news) (Builtin.zeroCells z.cells (c' - (l + l2))).toList (c' * inf.size) ?_ ?_ ⟨hs0.os, hs0.tape, hs0.output⟩
          · rw [List.length_append, vals_length, List.length_append, hl, hl2, Array.length_toList, zeroCells_size, hzs, ← Nat.add_mul, ← Nat.add_mul]
            congr 1
            omega
          · show w0.heap.push _ = _
            rw [hw0]
            congr 2
            apply Array.ext'
            simp [vals_append]
        have h5 : (Chunk.own (some ⟨w.heap.size, 0, none⟩) el (cs ++ news) (c' * inf.size) :: S).Perm ((Chunk.own (some ⟨w.heap.size, 0, none⟩) el (cs ++ news) (c' * inf.size) :: S.eraseIdx kk) ++ [Chunk.own A el cs (c * inf.size)]) :=
          (List.Perm.cons _ ((nth_split hb).trans (List.perm_append_comm (l₁ := [_])))).trans (by simp)
        exact ((hA.perm h5).drop).perm (putAt_perm hb).symm
      have hcapge : ∀ w0 : World, l + l2 ≤ grownCap w0 (l + l2) c el := by
        intro w0
        unfold grownCap Question.cut
        exact Nat.le_add_right _ _
      cases A with
      | none =>
        obtain ⟨rfl, hm⟩ := hh
        have hc0 : c = 0 := by
          rcases Nat.eq_zero_or_pos c with h | h
          · exact h
          · have := Nat.mul_pos h h0; omega
        have hl0 : l = 0 := by omega
        subst hc0 hl0
        have hr := run_append_nil (P := P) w T ty el inf z hT hi hz a2 l2 c2 (SV.vals news) hlv hnews hl20 (by omega) (by simp at hby; omega)
        have hcg := hcapge w
        simp only [Nat.zero_add] at hcg
        refine ⟨some ⟨w.heap.size, 0, none⟩, grownCap w l2 0 el, _, by rw [Nat.zero_add]; exact hr, by rw [Nat.zero_add]; exact hcg, ?_⟩
        have := hgrow [] w.drew (grownCap w l2 0 el) (by rw [Nat.zero_add]; exact hcg) rfl rfl ⟨rfl, rfl, rfl⟩
        simpa using this
      | some a =>
        obtain ⟨g1, g2, rest, h3, h4⟩ := hh
        obtain ⟨gb, o, s⟩ := a
        simp only at g1 g2 h3
        subst g1 g2
        have holds : ∀ j v, (SV.vals cs)[j]? = some v → w.cell? ((⟨gb, 0, none⟩ : Addr).add j) = some v := by
          intro j v hj
          rw [add_lit, Nat.zero_add]
          have hlt : j < (SV.vals cs).length := (List.getElem?_eq_some_iff.1 hj).1
          simp [World.cell?, h3, List.getElem?_append_left hlt, hj]
        have hns : Builtin.nextslicecap (l + l2) c * inf.bytes ≤ 281474976710656 := by
          have h6 := nextslicecap_le (need := l + l2) (old := c) (by omega)
          have h7 := Nat.mul_le_mul_right inf.bytes h6
          rw [Nat.mul_assoc] at h7
          omega
        have hr := run_append_grow (P := P) w T ty el inf z hT hi hz ⟨gb, 0, none⟩ l c (SV.vals cs) (by rw [vals_length]; exact hl) holds a2 l2 c2 (SV.vals news) hlv hnews (by omega) (by omega) hns
        exact ⟨some ⟨w.heap.size, 0, none⟩, grownCap w (l + l2) c el, _, hr, hcapge w, hgrow _ w.drew _ (hcapge w) rfl rfl ⟨rfl, rfl, rfl⟩⟩

/-- append(s, src...), s owned (or nil), src public -/
theorem h_app {el : TypeId} {inf : TypeInfo} {z : Value} {sz m : Nat} {A A2 : Option Addr} {l c l2 c2 : Nat} {cs news : List SV} (kk : Nat) (hT : P.underlying T = some (.slice el)) (hi : P.info? el = some inf) (hz : inf.zero = some z) (hzs : z.cells.size = inf.size) (hsz : inf.size = sz) (h0 : 0 < sz)
    (ho : nth ops i = some ⟨some d, .call ⟨.builtin .append, #[x, y], #[T, T]⟩, ty, pos, af, g⟩) (hg : gok ops e g = some true) (hx : opv e x = some (.sl A l c)) (hy : opv e y = some (.sl A2 l2 c2))
    (hb : nth S kk = some (.own A el cs m)) (hm : m = c * sz) (hl : cs.length = l * sz) (hlc : l ≤ c) (hsrc : RR H A2 news) (hl2 : news.length = l2 * sz) (h1 : ∀ s ∈ news, s.one = true) (hby : (l + l2) * inf.bytes ≤ 140737488355328) (h63 : l + l2 ≤ 9223372036854775807)
    (hk : ∀ A' c', l + l2 ≤ c' → (need i = true → KP C (putAt S kk (.own A' el (cs ++ news) (c' * sz))) H) ∧ XD P n B ops C need k t ((d, .sl A' (l + l2) c') :: e) (putAt S kk (.own A' el (cs ++ news) (c' * sz))) H) : XD P n B ops C need k (.h i t) e S H :=
  hval ho hg fun a w he hw => by
    subst hsz hm
    obtain ⟨A', c', w', hr, hc', hA⟩ := run_app (P := P) (T := T) (ty := ty) hw hT hi hz hzs h0 hb hl hlc (c2 := c2) hsrc hl2 h1 hby h63
    refine ⟨.sl A' (l + l2) c', _, _, w', ?_, hA, (hk A' c' hc').1, (hk A' c' hc').2⟩
    simp only [execOp, resolve]
    simp [he.opv hx, he.opv hy, SV.val, invoke, builtin, hr]

/-! ### a literal of a slice: its row is new, and public at once -/
/-- the parts are all, in order -/
def inOrder : List (Nat × Operand) → Nat → Bool
  | [], _ => true
  | (j, _) :: r, k => Nat.beq j k && inOrder r (k + 1)

theorem seg_take (L l : List Value) (a : Nat) (h : a ≤ L.length) : (L.take a ++ l ++ L.drop (a + l.length)).take (a + l.length) = L.take a ++ l := by
  have h1 : (L.take a ++ l).length = a + l.length := by simp; omega
  rw [← h1, List.take_left]
theorem seg_drop (L l : List Value) (a m : Nat) (h : a ≤ L.length) (hm : a + l.length ≤ m) : (L.take a ++ l ++ L.drop (a + l.length)).drop m = L.drop m := by
  have h1 : (L.take a ++ l).length = a + l.length := by simp; omega
  rw [List.drop_append, List.drop_of_length_le (by omega), h1, List.drop_drop, List.nil_append]
  congr 1
  omega

theorem fill_order (sz : Nat) : ∀ (parts : List (Nat × Value)) (j : Nat) (vss : List (List Value)) (cells : Array Value),
    parts.map (·.1) = List.range' j parts.length → parts.map (fun p => p.2.cells) = vss.map List.toArray → (∀ l ∈ vss, l.length = sz) → (j + parts.length) * sz ≤ cells.size →
    Instr.fill (fun i => some (i * sz, sz)) cells parts = some ⟨cells.toList.take (j * sz) ++ vss.flatten ++ cells.toList.drop ((j + parts.length) * sz)⟩
  | [], j, vss, cells, _, hv, _, _ => by
    have : vss = [] := by cases vss <;> simp at hv ⊢
    subst this
    simp [Instr.fill]
  | (q, v) :: r, j, vss, cells, hi, hv, hs, hc => by
    cases vss with
    | nil => simp at hv
    | cons l vss =>
      simp only [List.map_cons, List.cons.injEq] at hv
      obtain ⟨hv1, hv2⟩ := hv
      simp only [List.map_cons, List.length_cons, List.range'_succ, List.cons.injEq] at hi
      obtain ⟨rfl, hi2⟩ := hi
      have hl : l.length = sz := hs l (by simp)
      simp only [List.length_cons] at hc
      have hcs : (q + 1) * sz ≤ cells.size := Nat.le_trans (Nat.mul_le_mul_right _ (by omega)) hc
      have hq1 : (q + 1) * sz = q * sz + sz := by rw [Nat.add_mul, Nat.one_mul]
      have hsz2 : v.cells.size = sz := by rw [hv1]; simpa using hl
      simp only [Instr.fill]
      have hcs' : q * sz + sz ≤ cells.size := by rw [← hq1]; exact hcs
      rw [if_neg (by rw [hsz2]; simp; omega)]
      have hfold : ∀ (l : List Value) (o : Nat) (cells : Array Value), o + l.length ≤ cells.size →
          (l.toArray.zipIdx.foldl (fun cs (p : Value × Nat) => cs.setIfInBounds (o + p.2) p.1) cells).toList = cells.toList.take o ++ l ++ cells.toList.drop (o + l.length) := by
        intro l o cells hle
        have key : ∀ (l : List Value) (b : Nat) (cells : Array Value), o + b + l.length ≤ cells.size →
            ((l.zipIdx b).foldl (fun cs (p : Value × Nat) => cs.setIfInBounds (o + p.2) p.1) cells).toList = cells.toList.take (o + b) ++ l ++ cells.toList.drop (o + b + l.length) := by
          intro l
          induction l with
          | nil => intro b cells _; simp
          | cons u l ih =>
            intro b cells hle
            simp only [List.zipIdx_cons, List.foldl_cons, List.length_cons] at hle ⊢
            rw [ih (b + 1) _ (by simp; omega)]
            rw [Array.toList_setIfInBounds, show o + (b + 1) = (o + b) + 1 by omega]
            have := list_seg_step cells.toList (o + b) u l (by simp; omega)
            simpa [Nat.add_assoc, Nat.add_comm 1] using this
        have := key l 0 cells (by simpa using hle)
        simpa using this
      have hf := hfold l (q * sz) cells (by rw [hl]; omega)
      have e0 : v.cells.zipIdx.foldl (fun cs x => match x with | (c, j) => cs.setIfInBounds (q * sz + j) c) cells = l.toArray.zipIdx.foldl (fun cs (p : Value × Nat) => cs.setIfInBounds (q * sz + p.2) p.1) cells := by
        rw [hv1]
      rw [e0]
      have hsize : (l.toArray.zipIdx.foldl (fun cs (p : Value × Nat) => cs.setIfInBounds (q * sz + p.2) p.1) cells).size = cells.size := by
        rw [← Array.length_toList, hf]
        simp
        omega
      rw [fill_order sz r (q + 1) vss _ hi2 hv2 (fun l hl => hs l (by simp [hl])) (by rw [hsize]; exact Nat.le_trans (Nat.mul_le_mul_right _ (by omega)) hc)]
      rw [hf]
      have ha : q * sz ≤ cells.toList.length := by simp; omega
      rw [show (q + 1) * sz = q * sz + l.length by rw [hl, hq1], seg_take _ _ _ ha, seg_drop _ _ _ _ ha (by rw [hl, ← hq1]; exact Nat.mul_le_mul_right _ (by omega))]
      simp only [List.flatten_cons, List.append_assoc, List.length_cons]
      rw [show q + (r.length + 1) = q + 1 + r.length by omega]


def oneParts : List (Nat × Operand) → List Operand := fun l => l.map (·.2)

theorem inOrder_spec : ∀ (l : List (Nat × Operand)) (k : Nat), inOrder l k = true → l.map (·.1) = List.range' k l.length
  | [], k, _ => rfl
  | (j, x) :: r, k, h => by
    simp only [inOrder, Bool.and_eq_true] at h
    have := inOrder_spec r (k + 1) h.2
    simp [List.range'_succ, this, Nat.eq_of_beq_eq_true h.1]

/-- the cells of values, each of so many -/
def cellsOf : List SV → List SV
  | [] => []
  | v :: r => v.cells ++ cellsOf r

def allCells (sz : Nat) : List SV → Bool
  | [] => true
  | .agg cs :: r => Nat.beq cs.length sz && cs.all SV.one && allCells sz r
  | v :: r => Nat.beq sz 1 && v.one && allCells sz r

theorem allCells_spec {sz : Nat} : ∀ {l : List SV}, allCells sz l = true → ∀ v ∈ l, v.val.cells = ⟨SV.vals v.cells⟩ ∧ v.cells.length = sz ∧ ∀ c ∈ v.cells, c.one = true
  | [], _, v, hv => by cases hv
  | u :: r, h, v, hv => by
    have hu : (u.val.cells = ⟨SV.vals u.cells⟩ ∧ u.cells.length = sz ∧ ∀ c ∈ u.cells, c.one = true) ∧ allCells sz r = true := by
      by_cases hag : ∃ cs, u = .agg cs
      · obtain ⟨cs, rfl⟩ := hag
        simp only [allCells, Bool.and_eq_true] at h
        exact ⟨⟨rfl, Nat.eq_of_beq_eq_true h.1.1, fun c hc => List.all_eq_true.1 h.1.2 c hc⟩, h.2⟩
      · have h2 : (Nat.beq sz 1 && u.one && allCells sz r) = true := by
          cases u <;> first | exact h | exact absurd ⟨_, rfl⟩ hag
        simp only [Bool.and_eq_true] at h2
        have h1 := Nat.eq_of_beq_eq_true h2.1.1
        have hc : u.cells = [u] := by cases u <;> first | rfl | exact absurd ⟨_, rfl⟩ hag
        exact ⟨⟨SV.cells_val (.inl h2.1.2), by rw [hc, h1]; rfl, fun c hcc => by rw [hc] at hcc; simp only [List.mem_singleton] at hcc; rw [hcc]; exact h2.1.2⟩, h2.2⟩
    rcases List.mem_cons.1 hv with rfl | hv
    · exact hu.1
    · exact allCells_spec hu.2 v hv

theorem cellsOf_vals (l : List SV) : SV.vals (cellsOf l) = (l.map fun v => SV.vals v.cells).flatten := by
  induction l with
  | nil => rfl
  | cons v r ih => simp [cellsOf, vals_append, ih]

theorem cellsOf_length {sz : Nat} {l : List SV} (h : ∀ v ∈ l, v.cells.length = sz) : (cellsOf l).length = l.length * sz := by
  induction l with
  | nil => simp [cellsOf]
  | cons v r ih =>
    simp only [cellsOf, List.length_append, List.length_cons]
    rw [h v (by simp), ih (fun u hu => h u (by simp [hu])), Nat.add_mul, Nat.one_mul]
    omega

/-- []T{..}: a new row, owned -/
theorem h_bs {el : TypeId} {inf : TypeInfo} {z : Value} {sz len : Nat} {parts : Array (Nat × Operand)} {svs : List SV} {cs : List SV} (hT : P.underlying T = some (.slice el)) (hi : P.info? el = some inf) (hz : inf.zero = some z) (hsz : inf.size = sz) (ho : nth ops i = some ⟨some d, .buildSlice T len parts, ty, pos, af, g⟩) (hg : gok ops e g = some true)
    (hx : opvs e (oneParts parts.toList) = some svs) (hin : inOrder parts.toList 0 = true) (hlen : svs.length = len) (hall : allCells sz svs = true) (hcs : cellsOf svs = cs) (hb : len * sz ≤ 16777216)
    (hk : ∀ gb, (need i = true → KP C (.own (some ⟨gb, 0, none⟩) el cs (len * sz) :: S) H) ∧ XD P n B ops C need k t ((d, .sl (some ⟨gb, 0, none⟩) len len) :: e) (.own (some ⟨gb, 0, none⟩) el cs (len * sz) :: S) H) : XD P n B ops C need k (.h i t) e S H :=
  hval ho hg fun a w he hw => by
    subst hcs hsz
    have hspec := allCells_spec hall
    have hl : (cellsOf svs).length = len * inf.size := by rw [cellsOf_length (fun v hv => (hspec v hv).2.1), hlen]
    have hops := he.opvs hx
    have hpl : (parts.toList.map fun p => (p.1, a.eval p.2)).map (·.2) = SV.vals svs := by
      rw [List.map_map]
      unfold oneParts at hops
      rw [List.map_map] at hops
      exact hops
    have hpn : parts.toList.length = len := by
      have := congrArg List.length hpl
      simp only [List.length_map, vals_length] at this
      omega
    let L := parts.toList.map fun p => (p.1, a.eval p.2)
    have hL1 : L.map (·.1) = List.range' 0 L.length := by
      have := inOrder_spec _ _ hin
      simp only [L, List.map_map, List.length_map]
      exact this
    have hL2 : L.map (fun p => p.2.cells) = (svs.map fun v => SV.vals v.cells).map List.toArray := by
      have e1 : L.map (fun p => p.2.cells) = (L.map (·.2)).map Value.cells := by simp
      rw [e1, show L.map (·.2) = SV.vals svs from hpl, vals_eq, List.map_map, List.map_map]
      refine List.map_congr_left fun v hv => ?_
      exact (hspec v hv).1
    let Z : Array Value := (Array.range (len * inf.size)).map (z.cells[· % z.cells.size]!)
    have hZ : Z.size = len * inf.size := by simp [Z]
    have hLl : L.length = len := by simp [L, hpn]
    have hfill := fill_order inf.size L 0 (svs.map fun v => SV.vals v.cells) Z hL1 hL2 (fun l hl => by
      obtain ⟨v, hv, rfl⟩ := List.mem_map.1 hl
      rw [vals_length]; exact (hspec v hv).2.1) (by rw [hLl, hZ, Nat.zero_add]; exact Nat.le_refl _)
    rw [hLl] at hfill
    have e3 : Z.toList.take (0 * inf.size) ++ (svs.map fun v => SV.vals v.cells).flatten ++ Z.toList.drop ((0 + len) * inf.size) = SV.vals (cellsOf svs) ++ [] := by
      rw [Nat.zero_mul, Nat.zero_add, List.drop_of_length_le (by rw [Array.length_toList, hZ]; exact Nat.le_refl _), cellsOf_vals]
      simp
    rw [e3] at hfill
    have hA := hw.newOwn el (cellsOf svs) [] (len * inf.size) (by rw [List.length_append, vals_length, hl]; rfl) (w' := w.alloc (.cells ⟨SV.vals (cellsOf svs) ++ []⟩ el)) rfl ⟨rfl, rfl, rfl⟩
    refine ⟨.sl (some ⟨w.heap.size, 0, none⟩) len len, _, _, _, ?_, hA, (hk _).1, (hk _).2⟩
    have hmap : (parts.map fun (p : Nat × Operand) => (p.1, a.eval p.2)).toList = L := by simp [L]
    have hnle : ¬ (2 ^ 24 < len * inf.size) := by omega
    simp only [execOp]
    by_cases h0 : len * inf.size = 0
    · have hZe : Z = #[] := Array.eq_empty_of_size_eq_zero (by rw [hZ]; exact h0)
      have hfill' : Instr.fill (fun i => some (i * inf.size, inf.size)) #[] (parts.toList.map fun x => (x.fst, a.eval x.snd)) = some ⟨SV.vals (cellsOf svs)⟩ := by
        rw [← hZe, ← List.append_nil (SV.vals (cellsOf svs))]; exact hfill
      have h00 : (Array.map (fun _ => (default : Value)) (Array.range 0)) = #[] := Array.eq_empty_of_size_eq_zero (by simp)
      simp [Instr.buildSlice, run_underlying hT, sizeOf, typeInfo, hi, h0, newRow, SV.val, h00, hfill']
    · have hfill' : Instr.fill (fun i => some (i * inf.size, inf.size)) ((Array.range (len * inf.size)).map (z.cells[· % z.cells.size]!)) (parts.toList.map fun x => (x.fst, a.eval x.snd)) = some ⟨SV.vals (cellsOf svs)⟩ := by
        rw [← List.append_nil (SV.vals (cellsOf svs))]; exact hfill
      simp [Instr.buildSlice, run_underlying hT, sizeOf, typeInfo, zeroValue, hi, hz, hnle, h0, newRow, SV.val, hfill']

/-- copy into an owned row, from what all may read -/
theorem h_cpO {el T2 : TypeId} {inf : TypeInfo} {A A2 : Option Addr} {l c l2 c2 m : Nat} {cs news : List SV} {S' : Res} (kk : Nat) (hT : P.underlying T = some (.slice el)) (hi : P.info? el = some inf) (hsz : inf.size = 1)
    (ho : nth ops i = some ⟨some d, .call ⟨.builtin .copy, #[x, y], #[T, T2]⟩, ty, pos, af, g⟩) (hg : gok ops e g = some true) (hx : opv e x = some (.sl A l c)) (hy : opv e y = some (.sl A2 l2 c2))
    (hb : nth S kk = some (.own A el cs m)) (hl : cs.length = l) (h0 : 0 < m) (hsrc : RR H A2 news) (hl2 : news.length = l2) (h1 : ∀ s ∈ news, s.one = true)
    (hS : putAt S kk (.own A el (news.take l ++ cs.drop l2) m) = S') (hkp : need i = true → KP C S' H)
    (hk : XD P n B ops C need k t ((d, .i ((min l2 l : Nat) : Int)) :: e) S' H) : XD P n B ops C need k (.h i t) e S H :=
  hval ho hg fun a w he hw => by
    subst hS hl hl2
    have hh := hw.res _ (List.mem_of_getElem? (nth_get hb))
    obtain ⟨gb, rest, rfl, h3, h4⟩ := own_holds hh h0
    rcases Nat.eq_zero_or_pos news.length with hn0 | hn0
    · have hn : news = [] := List.eq_nil_of_length_eq_zero hn0
      subst hn
      have hA : At B (putAt S kk (.own (some ⟨gb, 0, none⟩) el (([] : List SV).take cs.length ++ cs.drop ([] : List SV).length) m)) H w := by
        have : (putAt S kk (Chunk.own (some ⟨gb, 0, none⟩) el cs m)).Perm S := (putAt_perm hb).trans (nth_split hb).symm
        simpa using hw.perm this.symm
      refine ⟨_, _, _, w, ?_, hA, hkp, hk⟩
      have hf : (Builtin.firstCells inf.size 0 (.slice A2 0 c2)).run P w = .ok #[] w := by
        cases A2 with
        | none => simp [Builtin.firstCells]
        | some b => simp [Builtin.firstCells, loadCells, loadCellsFrom]
      rw [hsz] at hf
      simp only [execOp, resolve]
      simp [he.opv hx, he.opv hy, SV.val, invoke, builtin, Builtin.copy_, run_underlying hT, Builtin.lenOf, sizeOf, typeInfo, hi, hsz, hf, storeCells, goInt]
    · obtain ⟨a2, rfl, hc2⟩ : ∃ a2, A2 = some a2 ∧ ∀ j sv, news[j]? = some sv → cellH H (a2.add j) = some sv.val := by
        rcases hsrc with h | ⟨a2, e, hc⟩
        · rw [h] at hn0; simp at hn0
        · exact ⟨a2, e, hc⟩
      have hlen : (SV.vals (news.take cs.length)).length = Nat.min news.length cs.length := by rw [vals_length, List.length_take, Nat.min_comm]
      have hsrc2 : ∀ j v, (SV.vals (news.take cs.length))[j]? = some v → w.cell? (a2.add j) = some v := by
        intro j v hj
        rw [vals_get] at hj
        cases hq : (news.take cs.length)[j]? with
        | none => rw [hq] at hj; cases hj
        | some sv =>
          rw [hq] at hj; simp only [Option.map_some, Option.some.injEq] at hj; rw [← hj]
          refine cellH_spec hw.hp (hc2 j sv ?_)
          rw [List.getElem?_take] at hq
          split at hq
          · exact hq
          · cases hq
      have hmin : Nat.min news.length cs.length = min news.length cs.length := rfl
      have hr := run_copy_row (P := P) w T T2 ty el gb 0 cs.length c a2 news.length c2 ⟨SV.vals cs ++ rest⟩ el (SV.vals (news.take cs.length)) hT (by rw [hi]; simp [hsz]) h3 hlen hsrc2
        (by show 0 + _ ≤ (SV.vals cs ++ rest).length; rw [hlen, List.length_append, vals_length, hmin]; omega) (vals_one fun s hs => h1 s (List.mem_of_mem_take hs))
      have e1 : (⟨SV.vals cs ++ rest⟩ : Array Value).toList.take 0 ++ SV.vals (news.take cs.length) ++ (⟨SV.vals cs ++ rest⟩ : Array Value).toList.drop (0 + (SV.vals (news.take cs.length)).length) = SV.vals (news.take cs.length ++ cs.drop news.length) ++ rest := by
        rw [hlen, hmin, vals_append, vals_drop]
        simp only [List.take_zero, List.nil_append, Nat.zero_add, List.append_assoc]
        congr 1
        rw [List.drop_append, vals_length]
        rcases Nat.le_total news.length cs.length with h | h
        · rw [Nat.min_eq_left h, show news.length - cs.length = 0 by omega, List.drop_zero]
        · rw [Nat.min_eq_right h, Nat.sub_self, List.drop_zero, List.drop_of_length_le (by rw [vals_length]; exact Nat.le_refl _), List.drop_of_length_le (by rw [vals_length]; exact h)]
      rw [e1] at hr
      have hA : At B (putAt S kk (.own (some ⟨gb, 0, none⟩) el (news.take cs.length ++ cs.drop news.length) m)) H (w.setRow gb ⟨SV.vals (news.take cs.length ++ cs.drop news.length) ++ rest⟩) :=
        hw.set hb rfl (setRow_same _ _ _) (setRow_size _ _ _) (fun g hg => setRow_other w gb g _ (by simpa [Chunk.dom] using hg))
          ⟨rfl, rfl, rest, setRow_heap_at w gb h3, by
            rw [List.length_append, vals_length] at h4 ⊢
            rw [List.length_append, List.length_take, List.length_drop]
            omega⟩
      refine ⟨_, _, _, _, ?_, hA, hkp, hk⟩
      rw [hlen, hmin] at hr
      simp only [execOp, resolve]
      simp [he.opv hx, he.opv hy, SV.val, invoke, builtin, hr, goInt]

/-- copy into cells of a box, from what all may read -/
theorem h_cpB {el T2 : TypeId} {inf : TypeInfo} {gb off : Nat} {tt : TypeId} {A2 : Option Addr} {l c l2 c2 : Nat} {cs cs' news : List SV} {S' : Res} (kk : Nat) (hT : P.underlying T = some (.slice el)) (hi : P.info? el = some inf) (hsz : inf.size = 1)
    (ho : nth ops i = some ⟨some d, .call ⟨.builtin .copy, #[x, y], #[T, T2]⟩, ty, pos, af, g⟩) (hg : gok ops e g = some true) (hx : opv e x = some (.sl (some ⟨gb, off, none⟩) l c)) (hy : opv e y = some (.sl A2 l2 c2))
    (hb : nth S kk = some (.box gb tt cs)) (hl : off + l ≤ cs.length) (hsrc : RR H A2 news) (hl2 : news.length = l2) (h1 : ∀ s ∈ news, s.one = true)
    (hcs : putL cs off (news.take l) = cs') (hS : putAt S kk (.box gb tt cs') = S') (hkp : need i = true → KP C S' H)
    (hk : XD P n B ops C need k t ((d, .i ((min l2 l : Nat) : Int)) :: e) S' H) : XD P n B ops C need k (.h i t) e S H :=
  hval ho hg fun a w he hw => by
    subst hcs hS hl2
    have h2 : w.heap[gb]? = some (.cells ⟨SV.vals cs⟩ tt (0, 0)) := hw.res _ (List.mem_of_getElem? (nth_get hb))
    have hA := hw.setBox (cs' := putL cs off (news.take l)) hb
    have hst := run_storeCells_box (P := P) (w := w) (off := off) (l := news.take l) h2 (by rw [List.length_take]; omega) (fun s hs => h1 s (List.mem_of_mem_take hs))
    refine ⟨_, _, _, _, ?_, hA, hkp, hk⟩
    have hfc : (Builtin.firstCells 1 (Nat.min news.length l) (.slice A2 news.length c2)).run P w = .ok ⟨SV.vals (news.take l)⟩ w := by
      rcases hsrc with h | ⟨a2, rfl, hc⟩
      · subst h
        cases A2 with
        | none => simp [Builtin.firstCells, SV.vals]
        | some b => simp [Builtin.firstCells, loadCells, loadCellsFrom, SV.vals]
      · refine run_firstCells_some (P := P) w 1 _ a2 _ _ (SV.vals (news.take l)) (by rw [vals_length, List.length_take, Nat.mul_one, Nat.min_comm]) (fun j v hj => ?_)
        rw [vals_get] at hj
        cases hq : (news.take l)[j]? with
        | none => rw [hq] at hj; cases hj
        | some sv =>
          rw [hq] at hj; simp only [Option.map_some, Option.some.injEq] at hj; rw [← hj]
          refine cellH_spec hw.hp (hc j sv ?_)
          rw [List.getElem?_take] at hq
          split at hq
          · exact hq
          · cases hq
    have hmin : Nat.min news.length l = min news.length l := rfl
    simp only [execOp, resolve]
    simp only [hmin] at hfc
    simp [he.opv hx, he.opv hy, SV.val, invoke, builtin, Builtin.copy_, run_underlying hT, Builtin.lenOf, sizeOf, typeInfo, hi, hsz, hmin, hfc, hst, goInt]

end
end Go.GW
