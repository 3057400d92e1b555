/- Own words: what is handed in, as the row reads it: numbers, slices of bytes, rows of structs. -/
import Derived.Test.YtcchamnagcpaiaaRowA
import Derived.Test.YtcchamnagcpaiaaGwK
import Derived.OpenShut
import Derived.ChangeArms
import Derived.Deep.Slices
set_option linter.unusedVariables false
set_option linter.unusedSimpArgs false
namespace Go.GW
open Go Go.ChangeShapes Go.WideShapes Go.ChangeAt Go.RowKit Go.Deep

section
variable {H : Type} {enc : TypeId × Value → H} {w : World} {spare : Nat → Bool} {held : Bool} {fuel : Nat} {t : TypeId} {cs : List Value} {x : DataW H × List MemPlace} {P : Program}

theorem open_bsl {e : TypeId} (ht : P.underlying t = some (.slice e)) (he : P.underlying e = some (.int .u8)) (hc : P.cellsOf e = 1) (h : DataW.trod enc P w 0 spare held fuel t cs = some x) :
    ∃ A n c xs, cs = [SV.val (.sl A n c)] ∧ BS (HW w) A n c xs := by
  rcases open_ints ht he hc h with ⟨hcs, _⟩ | ⟨a, len, cap, zs, hcs, _, hl, _, hz, _, hcell, hwf⟩
  · exact ⟨none, 0, 0, [], hcs, .nil, rfl, Nat.le_refl _⟩
  · have hzl : len ≤ zs.length := by rw [hz]; split <;> omega
    refine ⟨some a, len, cap, (zs.take len).map (fun z => UInt8.ofNat z.toNat), hcs, .inr ⟨a, rfl, fun j sv hj => ?_⟩, by simp; omega, hl⟩
    rw [List.map_map] at hj
    have hjl : j < (zs.take len).length := by
      have := (List.getElem?_eq_some_iff.1 hj).1
      simpa using this
    rw [List.length_take] at hjl
    have hj2 : j < zs.length := by omega
    rw [List.getElem?_map, List.getElem?_take, if_pos (by omega), List.getElem?_eq_getElem hj2] at hj
    simp only [Option.map_some, Option.some.injEq, Function.comp] at hj
    subst hj
    rw [cellH_HW, hcell j hj2]
    have hb := bounds_u8 (hwf zs[j] (List.getElem_mem hj2))
    have hd : zs.getD j 0 = zs[j] := by simp [hj2]
    rw [hd]
    simp only [SV.val, UInt8.toNat_ofNat']
    congr 2
    omega

theorem cells_get {base : Nat} {a : Addr} {n : Nat} {cs : List Value} (h : w.cells? base a n = some cs) : cs.length = n ∧ ∀ i, i < n → w.cell? (a.add i) = cs[i]? := by
  unfold World.cells? at h
  split at h
  · have hl := mapM_some_length h
    refine ⟨by simpa using hl, fun i hi => ?_⟩
    exact mapM_some_get h i i (by simp [hi])
  · cases h


theorem open_i (ht : P.underlying t = some (.int .i64)) (h : DataW.trod enc P w 0 spare held fuel t cs = some x) : ∃ v : Int, cs = [SV.val (.i v)] ∧ -9223372036854775808 ≤ v ∧ v ≤ 9223372036854775807 := by
  obtain ⟨n, e, _, hw⟩ := DataW.trod_int ht h
  have := bounds_i64 hw
  exact ⟨n, e, this.1, this.2⟩
theorem open_b (ht : P.underlying t = some .bool) (h : DataW.trod enc P w 0 spare held fuel t cs = some x) : ∃ v : Bool, cs = [SV.val (.b v)] := by
  obtain ⟨n, e, _⟩ := DataW.trod_bool ht h
  exact ⟨n, e⟩
theorem wf_un {k : IntKind} {n : Int} (h : (Lit.int k n).wf = true) (hs : k.signed = false) : 0 ≤ n ∧ n < 2 ^ k.bits := by
  cases k <;> simp [Lit.wf, IntKind.min, IntKind.max, IntKind.signed, IntKind.bits] at h hs ⊢ <;> omega
theorem open_u8 (ht : P.underlying t = some (.int .u8)) (h : DataW.trod enc P w 0 spare held fuel t cs = some x) : ∃ v : UInt8, cs = [SV.val (.u8 v)] := by
  obtain ⟨n, e, _, hw⟩ := DataW.trod_int ht h
  have := wf_un hw rfl
  simp only [IntKind.bits] at this
  refine ⟨UInt8.ofNat n.toNat, ?_⟩
  rw [e]
  simp only [SV.val, UInt8.toNat_ofNat']
  congr 2
  omega
theorem open_u16 (ht : P.underlying t = some (.int .u16)) (h : DataW.trod enc P w 0 spare held fuel t cs = some x) : ∃ v : UInt16, cs = [SV.val (.u16 v)] := by
  obtain ⟨n, e, _, hw⟩ := DataW.trod_int ht h
  have := wf_un hw rfl
  simp only [IntKind.bits] at this
  refine ⟨UInt16.ofNat n.toNat, ?_⟩
  rw [e]
  simp only [SV.val, UInt16.toNat_ofNat']
  congr 2
  omega
theorem open_u32 (ht : P.underlying t = some (.int .u32)) (h : DataW.trod enc P w 0 spare held fuel t cs = some x) : ∃ v : UInt32, cs = [SV.val (.u32 v)] := by
  obtain ⟨n, e, _, hw⟩ := DataW.trod_int ht h
  have := wf_un hw rfl
  simp only [IntKind.bits] at this
  refine ⟨UInt32.ofNat n.toNat, ?_⟩
  rw [e]
  simp only [SV.val, UInt32.toNat_ofNat']
  congr 2
  omega

/-- a row of structs, each of z cells -/
theorem rowz_get {α : Type} (z : Nat) (C : α → List SV) (hz : ∀ x, (C x).length = z) (d : α) : ∀ (l : List α) {j i : Nat} {sv : SV}, j < l.length → (C (l.getD j d))[i]? = some sv → (l.flatMap C)[j * z + i]? = some sv
  | [], _, _, _, h, _ => absurd h (by simp)
  | k :: r, 0, i, sv, _, h => by
    have hi : i < z := by
      have := (List.getElem?_eq_some_iff.1 h).1
      rw [hz] at this
      exact this
    simp only [List.flatMap_cons]
    rw [List.getElem?_append_left (by rw [hz]; omega)]
    simpa using h
  | k :: r, j + 1, i, sv, hj, h => by
    simp only [List.flatMap_cons]
    have e : (j + 1) * z + i = z + (j * z + i) := by rw [Nat.add_mul]; omega
    rw [List.getElem?_append_right (by rw [hz]; omega), hz, e, Nat.add_sub_cancel_left]
    exact rowz_get z C hz d r (by simpa using hj) (by simpa using h)
theorem rowz_len {α : Type} (z : Nat) (C : α → List SV) (hz : ∀ x, (C x).length = z) : ∀ (l : List α), (l.flatMap C).length = l.length * z
  | [] => by simp
  | k :: r => by rw [List.flatMap_cons, List.length_append, hz, rowz_len z C hz r, List.length_cons, Nat.add_mul]; omega

theorem open_rows {α : Type} (d : α) (C : α → List SV) (z : Nat) (hz : ∀ x, (C x).length = z) (h0 : 0 < z) (ok : α → Prop) {ek : TypeId} (hts : P.underlying t = some (.slice ek)) (hcz : P.cellsOf ek = z)
    (hop : ∀ {fuel : Nat} {cs : List Value} {x : DataW H × List MemPlace}, DataW.trod enc P w 0 spare held fuel ek cs = some x → ∃ k, cs = SV.vals (C k) ∧ ok k)
    (h : DataW.trod enc P w 0 spare held fuel t cs = some x) : ∃ A n c, ∃ ks : List α, cs = [SV.val (.sl A n c)] ∧ RR (HW w) A (ks.flatMap C) ∧ ks.length = n ∧ n ≤ c ∧ c ≤ maxLen ∧ ∀ k ∈ ks, ok k := by
  rcases open_slice hts h with ⟨hcs, _⟩ | ⟨a, len, cap, m, n, D, Pl, hcs, _, hl, hcm, hm, _, hel⟩
  · exact ⟨none, 0, 0, [], hcs, .nil, rfl, Nat.le_refl _, by decide, by simp⟩
  · have hml : len ≤ m := by rw [hm]; split <;> omega
    have hx : ∀ i, ∃ k : α, i < len → (∀ j, j < z → w.cell? ((a.add (i * z)).add j) = (SV.vals (C k))[j]?) ∧ ok k := by
      intro i
      by_cases hi : i < len
      · obtain ⟨cs', h1, h2⟩ := hel i (by omega)
        rw [hcz] at h1
        obtain ⟨k, rfl, hko⟩ := hop h2
        exact ⟨k, fun _ => ⟨(cells_get h1).2, hko⟩⟩
      · exact ⟨d, fun h => absurd h hi⟩
    let K : Nat → α := fun i => Classical.choose (hx i)
    have hK : ∀ i, i < len → (∀ j, j < z → w.cell? ((a.add (i * z)).add j) = (SV.vals (C (K i)))[j]?) ∧ ok (K i) := fun i hi => Classical.choose_spec (hx i) hi
    refine ⟨some a, len, cap, (List.range len).map K, hcs, .inr ⟨a, rfl, fun q sv hq => ?_⟩, by simp, hl, hcm, fun y hy => ?_⟩
    · have hq3 : q < len * z := by
        have := (List.getElem?_eq_some_iff.1 hq).1
        rw [rowz_len z C hz] at this
        simpa using this
      have hi : q / z < len := by
        rw [Nat.div_lt_iff_lt_mul h0]
        exact hq3
      have hr : q % z < z := Nat.mod_lt _ h0
      have hdm : q / z * z + q % z = q := by rw [Nat.mul_comm]; exact Nat.div_add_mod q z
      have hg1 : ((List.range len).map K).getD (q / z) d = K (q / z) := by simp [hi]
      have hc1 : (C (K (q / z)))[q % z]? = some sv := by
        have hlt : q % z < (C (K (q / z))).length := by rw [hz]; exact hr
        obtain ⟨sv', hsv⟩ : ∃ sv', (C (K (q / z)))[q % z]? = some sv' := ⟨_, List.getElem?_eq_getElem hlt⟩
        have := rowz_get z C hz d ((List.range len).map K) (j := q / z) (i := q % z) (sv := sv') (by simpa using hi) (by rw [hg1]; exact hsv)
        rw [hdm, hq] at this
        rw [hsv, this]
      rw [cellH_HW]
      have h1 := (hK (q / z) hi).1 (q % z) hr
      rw [add_add, hdm, vals_get, hc1] at h1
      exact h1
    · obtain ⟨i, hi, rfl⟩ := List.mem_map.1 hy
      exact (hK i (by simpa using hi)).2

/-- an array of bytes -/
theorem open_arr8 {n : Nat} {e : TypeId} (ht : P.underlying t = some (.array n e)) (he : P.underlying e = some (.int .u8)) (hc : P.cellsOf e = 1) (hn : P.cellsOf t = n) (h : DataW.trod enc P w 0 spare held fuel t cs = some x) : ∃ l : List UInt8, cs = SV.vals (l.map SV.u8) ∧ l.length = n := by
  obtain ⟨xs, m, _, _, hl, hxs, hf⟩ := DataW.trod_array ht h
  rw [hn] at hl
  have hx : ∀ i, ∃ v : UInt8, ∀ hi : i < cs.length, cs[i] = SV.val (.u8 v) := by
    intro i
    by_cases hi : i < cs.length
    · have h1 := hf i (by omega)
      rw [hc, Nat.mul_one, List.getElem?_eq_getElem (by omega)] at h1
      obtain ⟨v, hv⟩ := open_u8 he h1
      refine ⟨v, fun _ => ?_⟩
      rw [List.drop_eq_getElem_cons hi, List.take_succ_cons, List.take_zero] at hv
      exact (List.cons.inj hv).1
    · exact ⟨0, fun h => absurd h hi⟩
  let V : Nat → UInt8 := fun i => Classical.choose (hx i)
  have hV : ∀ i (hi : i < cs.length), cs[i] = SV.val (.u8 (V i)) := fun i hi => Classical.choose_spec (hx i) hi
  refine ⟨(List.range cs.length).map V, ?_, by simp [hl]⟩
  rw [vals_eq]
  apply List.ext_getElem
  · simp
  · intro i h1 h2
    rw [hV i h1]
    simp
theorem okWide_arr {r : Reach} {b0 n : Nat} {e : TypeId} {v : Value} (ht : P.underlying t = some (.array n e)) (h : Value.okWide P w r b0 t v) : ∃ cs, v = .agg cs := by
  simp only [Value.okWide, ht] at h
  obtain ⟨cs, h1, _⟩ := h
  exact ⟨cs, h1⟩

/-! values of parameters -/
theorem trod_v {d : DataW H} {p : List MemPlace} {v : Value} (h : DataW.Trod enc P w 0 spare held t v d p) : ∃ fuel, DataW.trod enc P w 0 spare held fuel t v.cells.toList = some (d, p) := h
theorem one_v {v : Value} {sv : SV} (h1 : v.cells.toList = [v]) (h : v.cells.toList = [sv.val]) : v = sv.val := by rw [h1] at h; exact (List.cons.inj h).1
theorem agg_v {cs : Array Value} {l : List SV} (h : (Value.agg cs).cells.toList = SV.vals l) : Value.agg cs = SV.val (.agg l) := by
  simp only [Value.cells] at h
  simp only [SV.val]
  rw [← h]
end

end Go.GW
